import PyProof.Rows.All
import Wide.All
import OpenK.AllK
import Wide.FinOn
import HandS.Ends
import HandS.ExcCtx
import HandS.ForMost
import HandS.ForExc
import HandS.Wide
import HandS.IsInst
import HandS.Zip
import HandS.Rev
import HandS.Conv
import HandS.More
import HandS.HotCalls
import HandS.ExcIs
import HandS.Deep
import HandS.SetFor
import HandS.Style
import KE.KDictZip
import KE.KExcIs
import HandS.ExcField
import KE.DataFind
import HandS.ExcInit
import HandS.ClsMeth
import HandS.Dict
import HandS.WordsDict
import HandS.Iter
import HandS.Walk
import HandS.CallLocal
import HandS.RaiseMore
import PyProof.ReprLen
import PySem.Challenge.RW_rayround_k06_rounds_of_any_thing
set_option Elab.async false
set_option linter.all false
set_option maxRecDepth 100000
/-! LayA: a heap-free layer over HandS: data by value, lists that one slot alone holds may change. -/
namespace RR
open PySem PySem.Spec PyProof.Rows L2

/-! ### data, slots, results -/
abbrev D := PyData
/-- what may change: no tuple, no exception's dict -/
def Mut (o : HO) : Prop := (∀ vs, o ≠ .tup vs) ∧ (∀ fv, o ≠ .xd fv) ∧ ∀ b u, o ≠ .frz b u
theorem Mut.lst {vs : List V} : Mut (.lst vs) := ⟨fun _ z => (by cases z), fun _ z => (by cases z), fun _ _ z => (by cases z)⟩
/-- what is never changed -/
def Imm (o : HO) : Prop := (∃ vs, o = .tup vs) ∨ ∃ b vs, o = .frz b (.tup vs)
theorem Mut.not {o : HO} (m : Mut o) : ¬ Imm o := fun z => by
  rcases z with ⟨vs, z⟩ | ⟨b, u, z⟩
  · exact m.1 vs z
  · exact m.2.2 b _ z
/-- no list that is known as it stands -/
def Nfz (o : HO) : Prop := ∀ b vs, o ≠ .frz b (.lst vs)
theorem Nfz.lst {vs : List V} : Nfz (.lst vs) := fun _ _ z => (by cases z)
theorem Nfz.tup {vs : List V} : Nfz (.tup vs) := fun _ _ z => (by cases z)
theorem Imm.nfz {o : HO} (h : Imm o) : Nfz o := fun b vs z => by
  rcases h with ⟨ws, e⟩ | ⟨c, ws, e⟩
  · rw [e] at z; cases z
  · rw [e] at z; cases z
theorem Mut.nfz {o : HO} (h : Mut o) : Nfz o := fun b vs z => h.2.2 b _ z
/-- a part of the heap that one slot alone reaches: what stands there, at which addresses -/
structure Reg where
  at_ : PySem.W.Frag → Hp → Hp → V → Prop
  ads : Addr → Prop
  dat : Option D
  mono : ∀ {K : PySem.W.Frag} {Hs Hs' H H' : Hp} {v : V}, Same Hs Hs' → (∀ a o, ads a → H a = some o → H' a = some o) → at_ K Hs H v → at_ K Hs' H' v
  there : ∀ {K : PySem.W.Frag} {Hs H : Hp} {v : V} {a : Addr}, at_ K Hs H v → ads a → ∃ o, H a = some o ∧ Mut o
  look : ∀ {K : PySem.W.Frag} {Hs H : Hp} {v : V} {d : D}, at_ K Hs H v → Same Hs H → dat = some d → Dp K H v d
/-- what a slot holds: data that is never changed, a list that this slot alone reaches, or the caught exception at a, its dict at dd, or a new tuple at p, of data and of lists that it alone reaches, each at its address -/
inductive W where
  | val (d : D) | own (xs : List D) | exc (a dd : Addr) (fs : List (Str × D)) | nst (p : Addr) (its : List (D ⊕ (Addr × List D))) | reg (r : Reg)
abbrev Rho := List (Option W)
/-- an expression's result: data, a new list, or what the slot i holds -/
inductive R where
  | val (d : D) | own (xs : List D) | var (i : Nat) | nst (p : Addr) (its : List (D ⊕ (Addr × List D)))
/-- an exception: its class by name, its fields -/
structure Xc where
  cls : String
  fs : List (Str × D)
abbrev PostE := R → Rho → Prop
abbrev PostX := Xc → Rho → Prop
abbrev TeD := Rho → PostE → PostX → Prop

/-- a branch -/
def br (b : Bool) (p q : Prop) : Prop := match b with
  | true => p
  | false => q
/-- what is had, handed on -/
def onSome {α : Type} (o : Option α) (k : α → Prop) : Prop := match o with
  | some a => k a
  | none => False
theorem onSome_ex {α : Type} {o : Option α} {k : α → Prop} (h : onSome o k) : ∃ a, o = some a ∧ k a := by
  cases o with
  | none => exact h.elim
  | some a => exact ⟨a, rfl, h⟩
theorem onSome_of {α : Type} {o : Option α} {k : α → Prop} {a : α} (h : o = some a) (q : k a) : onSome o k := by rw [h]; exact q
/-- a check that reckons itself out -/
def chk (b : Bool) (k : Prop) : Prop := match b with
  | true => k
  | false => False
theorem chk_and {b : Bool} {k : Prop} (h : chk b k) : b = true ∧ k := by
  cases b with
  | false => exact h.elim
  | true => exact ⟨rfl, h⟩
theorem chk_of {b : Bool} {k : Prop} (h : b = true) (q : k) : chk b k := by rw [h]; exact q
def asB : Option D → Option Bool
  | some (.bool b) => some b
  | _ => none
def asI : Option D → Option Int
  | some (.int b) => some b
  | _ => none
def asL : Option D → Option (List D)
  | some (.list b) => some b
  | _ => none
def asT : Option D → Option (List D)
  | some (.tuple b) => some b
  | _ => none
theorem asB_of {o : Option D} {b : Bool} (h : asB o = some b) : o = some (.bool b) := by
  unfold asB at h
  split at h
  · cases h; rfl
  · cases h
theorem asI_of {o : Option D} {b : Int} (h : asI o = some b) : o = some (.int b) := by
  unfold asI at h
  split at h
  · cases h; rfl
  · cases h
theorem asL_of {o : Option D} {b : List D} (h : asL o = some b) : o = some (.list b) := by
  unfold asL at h
  split at h
  · cases h; rfl
  · cases h
theorem asT_of {o : Option D} {b : List D} (h : asT o = some b) : o = some (.tuple b) := by
  unfold asT at h
  split at h
  · cases h; rfl
  · cases h
def rd (ρ : Rho) : R → Option D
  | .val d => some d
  | .own xs => some (.list xs)
  | .var i => match ρ[i]? with
    | some (some (.val d)) => some d
    | some (some (.own xs)) => some (.list xs)
    | _ => none
  | .nst _ _ => none
/-- made data: a list held by a slot may not change from then on -/
def fz (ρ : Rho) : R → Option (D × Rho)
  | .val d => some (d, ρ)
  | .own xs => some (.list xs, ρ)
  | .var i => match ρ[i]? with
    | some (some (.val d)) => some (d, ρ)
    | some (some (.own xs)) => some (.list xs, ρ.set i (some (.val (.list xs))))
    | _ => none
  | .nst _ _ => none

/-! ### data in the heap -/
section
variable {K : PySem.W.Frag} {H H' : Hp}
theorem seqT_mono {a : Addr} {xs : List V} (e : Same H H') (h : SqT K H a xs) : SqT K H' a xs := by
  rcases h with (h | ⟨o, h⟩) | h
  · exact .inl (.inl (e _ _ h))
  · exact .inl (.inr ⟨o, e _ _ h⟩)
  · exact .inr h
mutual
theorem dp_mono (e : Same H H') : ∀ (d : PyData) (v : V), Dp K H v d → Dp K H' v d
  | .none, _, h => by cases h; exact .non
  | .bool b, _, h => by cases h; exact .bl b
  | .int i, _, h => by cases h; exact .int i
  | .str x, _, h => by cases h; exact .str x
  | .list ds, _, h => by
    cases h with
    | lst hs ha => exact .lst (e.seq hs) (dpa_mono e ds _ ha)
  | .tuple ds, _, h => by
    cases h with
    | tup hs ha => exact .tup (seqT_mono e hs) (dpa_mono e ds _ ha)
  | .dict _, _, h => by cases h
theorem dpa_mono (e : Same H H') : ∀ (ds : List PyData) (vs : List V), DpAll K H vs ds → DpAll K H' vs ds
  | [], _, h => by cases h; exact .nil
  | d :: ds, _, h => by
    cases h with
    | cons h1 h2 => exact .cons (dp_mono e d _ h1) (dpa_mono e ds _ h2)
end
theorem dpa_len : ∀ {vs : List V} {ds : List PyData}, DpAll K H vs ds → vs.length = ds.length
  | _, _, .nil => rfl
  | _, _, .cons _ t => by rw [List.length_cons, List.length_cons, dpa_len t]
theorem dpa_get : ∀ {vs : List V} {ds : List PyData} {i : Nat} {d : PyData}, DpAll K H vs ds → ds[i]? = some d → ∃ v, vs[i]? = some v ∧ Dp K H v d
  | _, _, _, _, .nil, e => by simp at e
  | _, _, 0, _, .cons h _, e => by simp at e; subst e; exact ⟨_, rfl, h⟩
  | _, _, i + 1, d, .cons _ t, e => by
    obtain ⟨v, h1, h2⟩ := dpa_get (i := i) t (by simpa using e)
    exact ⟨v, by simpa using h1, h2⟩
theorem dpa_get' {vs : List V} {ds : List PyData} {i : Nat} {v : V} (h : DpAll K H vs ds) (e : vs[i]? = some v) : ∃ d, ds[i]? = some d ∧ Dp K H v d := by
  have hl := dpa_len h
  have hi : i < ds.length := by rw [← hl]; exact (List.getElem?_eq_some_iff.mp e).1
  obtain ⟨v', h1, h2⟩ := dpa_get h (List.getElem?_eq_getElem hi)
  rw [e] at h1
  cases h1
  exact ⟨_, List.getElem?_eq_getElem hi, h2⟩
theorem dpa_append : ∀ {vs us : List V} {ds es : List PyData}, DpAll K H vs ds → DpAll K H us es → DpAll K H (vs ++ us) (ds ++ es)
  | _, _, _, _, .nil, h => h
  | _, _, _, _, .cons h t, h' => .cons h (dpa_append t h')
theorem dpa_one {v : V} {d : PyData} (h : Dp K H v d) : DpAll K H [v] [d] := .cons h .nil
theorem dpa_take : ∀ {vs : List V} {ds : List PyData} (n : Nat), DpAll K H vs ds → DpAll K H (vs.take n) (ds.take n)
  | _, _, 0, _ => .nil
  | _, _, _ + 1, .nil => .nil
  | _, _, n + 1, .cons h t => .cons h (dpa_take n t)
theorem dpa_drop : ∀ {vs : List V} {ds : List PyData} (n : Nat), DpAll K H vs ds → DpAll K H (vs.drop n) (ds.drop n)
  | _, _, 0, h => h
  | _, _, _ + 1, .nil => .nil
  | _, _, n + 1, .cons _ t => dpa_drop n t
theorem dpa_set : ∀ {vs : List V} {ds : List PyData} {v : V} {d : PyData} (i : Nat), DpAll K H vs ds → Dp K H v d → DpAll K H (vs.set i v) (ds.set i d)
  | _, _, _, _, _, .nil, _ => .nil
  | _, _, _, _, 0, .cons _ t, h => .cons h t
  | _, _, _, _, i + 1, .cons q t, h => .cons q (dpa_set i t h)
theorem dpa_insert : ∀ {vs : List V} {ds : List PyData} {v : V} {d : PyData} (i : Nat), DpAll K H vs ds → Dp K H v d → DpAll K H (vs.take i ++ v :: vs.drop i) (ds.take i ++ d :: ds.drop i)
  | _, _, _, _, i, h, q => dpa_append (dpa_take i h) (.cons q (dpa_drop i h))
theorem dpa_reverse : ∀ {vs : List V} {ds : List PyData}, DpAll K H vs ds → DpAll K H vs.reverse ds.reverse
  | _, _, .nil => .nil
  | _, _, .cons h t => by
    rw [List.reverse_cons, List.reverse_cons]
    exact dpa_append (dpa_reverse t) (.cons h .nil)
theorem dpa_dropLast {vs : List V} {ds : List PyData} (h : DpAll K H vs ds) : DpAll K H vs.dropLast ds.dropLast := by
  rw [List.dropLast_eq_take, List.dropLast_eq_take, dpa_len h]
  exact dpa_take _ h
theorem dpa_rep {vs : List V} {ds : List PyData} (h : DpAll K H vs ds) : ∀ n : Nat, DpAll K H (List.replicate n vs).flatten (List.replicate n ds).flatten
  | 0 => .nil
  | n + 1 => by
    rw [List.replicate_succ, List.replicate_succ, List.flatten_cons, List.flatten_cons]
    exact dpa_append h (dpa_rep h n)
theorem dpa_ints : ∀ {vs : List V} {ns : List Int}, DpAll K H vs (ns.map .int) → vs = ns.map V.int
  | _, [], h => by cases h; rfl
  | _, n :: ns, h => by
    cases h with
    | cons h1 h2 =>
      cases h1
      rw [List.map_cons, dpa_ints h2]
theorem dpa_bools : ∀ {vs : List V} {ns : List Bool}, DpAll K H vs (ns.map .bool) → vs = ns.map V.bl
  | _, [], h => by cases h; rfl
  | _, n :: ns, h => by
    cases h with
    | cons h1 h2 =>
      cases h1
      rw [List.map_cons, dpa_bools h2]
theorem dpa_of_ints : ∀ (ns : List Int), DpAll K H (ns.map V.int) (ns.map .int)
  | [] => .nil
  | n :: ns => .cons (.int n) (dpa_of_ints ns)
theorem dpa_int {v : V} {i : Int} (h : Dp K H v (.int i)) : v = .int i := by cases h; rfl
theorem dp_bool {v : V} {i : Bool} (h : Dp K H v (.bool i)) : v = .bl i := by cases h; rfl
theorem dp_none {v : V} (h : Dp K H v .none) : v = .non := by cases h; rfl
theorem dp_str {v : V} {x : Str} (h : Dp K H v (.str x)) : v = .str x := by cases h; rfl
end

/-! ### the state: the shared part of the heap, the slots' data, the slots, the heap -/
structure Gst where
  Hs : Hp
  ρ : Rho
  σ : L2.St
  H : Hp
/-- a slot's own list lies at a -/
inductive Owns (ρ : Rho) (σ : L2.St) : Nat → Addr → List D → Prop
  | top {i : Nat} {a : Addr} {xs : List D} : ρ[i]? = some (some (W.own xs)) → σ[i]? = some (some (V.ref a)) → Owns ρ σ i a xs
  | sub {i : Nat} {p a : Addr} {xs : List D} {its : List (D ⊕ (Addr × List D))} : ρ[i]? = some (some (W.nst p its)) → Sum.inr (a, xs) ∈ its → Owns ρ σ i a xs
  | reg {i : Nat} {a : Addr} {xs : List D} {r : Reg} : ρ[i]? = some (some (W.reg r)) → r.ads a → Owns ρ σ i a xs
def OwnAt (ρ : Rho) (σ : L2.St) (a : Addr) : Prop := ∃ (i : Nat) (xs : List D), Owns ρ σ i a xs
theorem OwnAt.top {ρ : Rho} {σ : L2.St} {i : Nat} {a : Addr} {xs : List D} (h : ρ[i]? = some (some (W.own xs))) (k : σ[i]? = some (some (V.ref a))) : OwnAt ρ σ a := ⟨i, xs, .top h k⟩
/-- the parts of a new tuple: data, and lists of its own -/
inductive Its (K : PySem.W.Frag) (Hs H : Hp) : List V → List (D ⊕ (Addr × List D)) → Prop
  | nil : Its K Hs H [] []
  | dat {v : V} {d : D} {vs : List V} {its : List (D ⊕ (Addr × List D))} : Dp K Hs v d → Its K Hs H vs its → Its K Hs H (v :: vs) (Sum.inl d :: its)
  | lst {q : Addr} {us : List V} {xs : List D} {vs : List V} {its : List (D ⊕ (Addr × List D))} : H q = some (.lst us) → DpAll K Hs us xs → Hs q = none → Its K Hs H vs its → Its K Hs H (.ref q :: vs) (Sum.inr (q, xs) :: its)
theorem Its.at_ {K : PySem.W.Frag} {Hs H : Hp} {q : Addr} {xs : List D} : ∀ {vs : List V} {its : List (D ⊕ (Addr × List D))}, Its K Hs H vs its → Sum.inr (q, xs) ∈ its → ∃ us, H q = some (.lst us) ∧ DpAll K Hs us xs ∧ Hs q = none
  | _, _, .nil, m => by simp at m
  | _, _, .dat _ t, m => by
    rcases List.mem_cons.mp m with z | z
    · cases z
    · exact Its.at_ t z
  | _, _, .lst h1 h2 h3 t, m => by
    rcases List.mem_cons.mp m with z | z
    · cases z
      exact ⟨_, h1, h2, h3⟩
    · exact Its.at_ t z
theorem Its.mono {K : PySem.W.Frag} {Hs Hs' H H' : Hp} (s : Same Hs Hs') : ∀ {vs : List V} {its : List (D ⊕ (Addr × List D))}, (∀ q xs us, Sum.inr (q, xs) ∈ its → H q = some (.lst us) → Hs q = none → H' q = some (.lst us) ∧ Hs' q = none) → Its K Hs H vs its → Its K Hs' H' vs its
  | _, _, _, .nil => .nil
  | _, _, k, .dat h t => .dat (dp_mono s _ _ h) (Its.mono s (fun q xs us m => k q xs us (List.mem_cons_of_mem _ m)) t)
  | _, _, k, .lst h1 h2 h3 t => let ⟨a, b⟩ := k _ _ _ (List.mem_cons_self ..) h1 h3; .lst a (dpa_mono s _ _ h2) b (Its.mono s (fun q xs us m => k q xs us (List.mem_cons_of_mem _ m)) t)
/-- the addresses of its lists -/
def ads : List (D ⊕ (Addr × List D)) → List Addr
  | [] => []
  | .inl _ :: its => ads its
  | .inr (q, _) :: its => q :: ads its
theorem ads_mem {q : Addr} : ∀ {its : List (D ⊕ (Addr × List D))}, q ∈ ads its ↔ ∃ xs, Sum.inr (q, xs) ∈ its
  | [] => by simp [ads]
  | .inl d :: its => by
    show q ∈ ads its ↔ _
    rw [ads_mem]
    constructor
    · rintro ⟨xs, h⟩
      exact ⟨xs, List.mem_cons_of_mem _ h⟩
    · rintro ⟨xs, h⟩
      rcases List.mem_cons.mp h with z | z
      · cases z
      · exact ⟨xs, z⟩
  | .inr (p, ys) :: its => by
    show q ∈ p :: ads its ↔ _
    rw [List.mem_cons, ads_mem]
    constructor
    · rintro (rfl | ⟨xs, h⟩)
      · exact ⟨ys, List.mem_cons_self ..⟩
      · exact ⟨xs, List.mem_cons_of_mem _ h⟩
    · rintro ⟨xs, h⟩
      rcases List.mem_cons.mp h with z | z
      · cases z
        exact .inl rfl
      · exact .inr ⟨xs, z⟩
def NstAt (K : PySem.W.Frag) (Hs H : Hp) (p : Addr) (its : List (D ⊕ (Addr × List D))) : Prop := (∃ vs, H p = some (.tup vs) ∧ Its K Hs H vs its) ∧ (ads its).Nodup ∧ ∃ vs, Hs p = some (.tup vs)
theorem NstAt.mono {K : PySem.W.Frag} {Hs Hs' H H' : Hp} {p : Addr} {its : List (D ⊕ (Addr × List D))} (s : Same Hs Hs') (kp : ∀ vs, H p = some (.tup vs) → H' p = some (.tup vs)) (k : ∀ q xs us, Sum.inr (q, xs) ∈ its → H q = some (.lst us) → Hs q = none → H' q = some (.lst us) ∧ Hs' q = none) : NstAt K Hs H p its → NstAt K Hs' H' p its
  | ⟨⟨vs, a, b⟩, c, us, d⟩ => ⟨⟨vs, kp vs a, b.mono s k⟩, c, us, s _ _ d⟩
/-- an exception's fields as they lie -/
def XF (K : PySem.W.Frag) (Hs H : Hp) (dd : Addr) (fs : List (Str × D)) : Prop := fs = [] ∨ ∃ fv, H dd = some (.xd fv) ∧ fv.map (·.1) = fs.map (·.1) ∧ DpAll K Hs (fv.map (·.2)) (fs.map (·.2))
theorem XF.mono {K : PySem.W.Frag} {Hs Hs' H H' : Hp} {dd : Addr} {fs : List (Str × D)} (s : Same Hs Hs') (k : ∀ fv, H dd = some (.xd fv) → H' dd = some (.xd fv)) : XF K Hs H dd fs → XF K Hs' H' dd fs
  | .inl h => .inl h
  | .inr ⟨fv, a, b, c⟩ => .inr ⟨fv, k fv a, b, dpa_mono s _ _ c⟩
def RegAt (K : PySem.W.Frag) (Hs H : Hp) (v : V) (r : Reg) : Prop := r.at_ K Hs H v ∧ ∀ a, r.ads a → Hs a = none
theorem RegAt.mono {K : PySem.W.Frag} {Hs Hs' H H' : Hp} {v : V} {r : Reg} (s : Same Hs Hs') (k : ∀ a o, r.ads a → H a = some o → Hs a = none → H' a = some o ∧ Hs' a = none) : RegAt K Hs H v r → RegAt K Hs' H' v r
  | ⟨h1, h2⟩ => ⟨r.mono s (fun a o m z => (k a o m z (h2 a m)).1) h1, fun a m => let ⟨o, z, _⟩ := r.there h1 m; (k a o m z (h2 a m)).2⟩
structure Rel (K : PySem.W.Frag) (g : Gst) : Prop where
  len : g.σ.length = g.ρ.length
  same : Same g.Hs g.H
  val : ∀ (i : Nat) (d : D), g.ρ[i]? = some (some (.val d)) → ∃ v, g.σ[i]? = some (some v) ∧ Dp K g.Hs v d
  own : ∀ (i : Nat) (xs : List D), g.ρ[i]? = some (some (.own xs)) → ∃ p vs, g.σ[i]? = some (some (.ref p)) ∧ g.H p = some (.lst vs) ∧ DpAll K g.Hs vs xs ∧ g.Hs p = none
  sepO : ∀ (i j : Nat) (p : Addr) (xs ys : List D), Owns g.ρ g.σ i p xs → Owns g.ρ g.σ j p ys → i = j
  nst : ∀ (i : Nat) (p : Addr) (its : List (D ⊕ (Addr × List D))), g.ρ[i]? = some (some (.nst p its)) → g.σ[i]? = some (some (.ref p)) ∧ NstAt K g.Hs g.H p its
  exc : ∀ (i : Nat) (a dd : Addr) (fs : List (Str × D)), g.ρ[i]? = some (some (.exc a dd fs)) → g.σ[i]? = some (some (.ref a)) ∧ XF K g.Hs g.H dd fs
  reg : ∀ (i : Nat) (r : Reg), g.ρ[i]? = some (some (.reg r)) → ∃ v, g.σ[i]? = some (some v) ∧ RegAt K g.Hs g.H v r
theorem Rel.sep {K : PySem.W.Frag} {g : Gst} (h : Rel K g) (i j : Nat) (p : Addr) (xs ys : List D) (a : g.ρ[i]? = some (some (.own xs))) (b : g.ρ[j]? = some (some (.own ys))) (c : g.σ[i]? = some (some (.ref p))) (d : g.σ[j]? = some (some (.ref p))) : i = j := h.sepO i j p xs ys (.top a c) (.top b d)
structure Ext (fx : List Nat) (g g' : Gst) : Prop where
  same : Same g.Hs g'.Hs
  new : ∀ a o, g'.Hs a = some o → g.Hs a = none → (g.H a = none ∧ Nfz o) ∨ (OwnAt g.ρ g.σ a ∧ Nfz o) ∨ (Imm o ∧ g.H a = some o)
  frame : ∀ a o, g.H a = some o → ¬ OwnAt g.ρ g.σ a → g'.H a = some o
  dom : ∀ a o, g.H a = some o → ∃ o', g'.H a = some o'
  own : ∀ a, OwnAt g'.ρ g'.σ a → OwnAt g.ρ g.σ a ∨ g.H a = none
  fix : ∀ (i : Nat), i ∈ fx → g'.σ[i]? = g.σ[i]?
  len : g'.σ.length = g.σ.length
/-- the expression's start: its heap, and what its slots own -/
abbrev Bg := Hp × (Addr → Prop)
def bg (g : Gst) : Bg := (g.H, OwnAt g.ρ g.σ)
/-- a result's value, H0 the expression's start -/
def Rep (K : PySem.W.Frag) (g : Gst) (H0 : Bg) (v : V) : R → Prop
  | .val d => Dp K g.Hs v d
  | .own xs => ∃ p vs, v = .ref p ∧ g.H p = some (.lst vs) ∧ DpAll K g.Hs vs xs ∧ g.Hs p = none ∧ ¬ OwnAt g.ρ g.σ p ∧ (H0.1 p = none ∨ H0.2 p)
  | .var i => g.σ[i]? = some (some v) ∧ ∃ w, g.ρ[i]? = some (some w)
  | .nst p its => v = .ref p ∧ NstAt K g.Hs g.H p its ∧ (∀ q ∈ p :: ads its, ¬ OwnAt g.ρ g.σ q) ∧ ∀ q ∈ ads its, H0.1 q = none ∨ H0.2 q
/-- what is looked at: a list's items are shared data -/
def Lk (K : PySem.W.Frag) (Hs H : Hp) (v : V) (d : D) : Prop := Dp K Hs v d ∨ ∃ p vs ds, v = .ref p ∧ d = .list ds ∧ H p = some (.lst vs) ∧ DpAll K Hs vs ds

section
variable {K : PySem.W.Frag} {fx : List Nat} {g g' g'' : Gst} {H0 : Bg} {v : V} {r : R} {d : D}
theorem Ext.refl : Ext fx g g := ⟨Same.refl _, fun a o h n => (by rw [h] at n; cases n), fun _ _ h _ => h, fun _ o h => ⟨o, h⟩, fun _ h => .inl h, fun _ _ => rfl, rfl⟩
theorem Ext.trans (e : Ext fx g g') (f : Ext fx g' g'') : Ext fx g g'' where
  same := e.same.trans f.same
  new := fun a o h n => by
    cases q : g'.Hs a with
    | some o' =>
      have : o' = o := Option.some.inj ((f.same a o' q).symm.trans h)
      subst this
      exact e.new a o' q n
    | none =>
      rcases f.new a o h q with ⟨z, nf⟩ | ⟨z, nf⟩ | ⟨z1, z2⟩
      · cases r : g.H a with
        | none => exact .inl ⟨rfl, nf⟩
        | some o' =>
          obtain ⟨o2, z2⟩ := e.dom a o' r
          rw [z] at z2; cases z2
      · rcases e.own a z with z | z
        · exact .inr (.inl ⟨z, nf⟩)
        · exact .inl ⟨z, nf⟩
      · cases r : g.H a with
        | none => exact .inl ⟨rfl, z1.nfz⟩
        | some o' =>
          by_cases w : OwnAt g.ρ g.σ a
          · exact .inr (.inl ⟨w, z1.nfz⟩)
          · have : o' = o := Option.some.inj ((e.frame a o' r w).symm.trans z2)
            exact .inr (.inr ⟨z1, by rw [this]⟩)
  frame := fun a o h n => by
    refine f.frame a o (e.frame a o h n) fun z => ?_
    rcases e.own a z with z | z
    · exact n z
    · rw [h] at z; cases z
  dom := fun a o h => by
    obtain ⟨o', h'⟩ := e.dom a o h
    exact f.dom a o' h'
  own := fun a h => by
    rcases f.own a h with z | z
    · exact e.own a z
    · right
      cases r : g.H a with
      | none => rfl
      | some o' =>
        obtain ⟨o2, z2⟩ := e.dom a o' r
        rw [z] at z2; cases z2
  fix := fun i hi => (f.fix i hi).trans (e.fix i hi)
  len := f.len.trans e.len

theorem OwnAt.at_ (h : Rel K g) {a : Addr} (o : OwnAt g.ρ g.σ a) : ∃ o', g.H a = some o' ∧ Mut o' ∧ g.Hs a = none := by
  obtain ⟨i, xs, o⟩ := o
  cases o with
  | top h1 h2 =>
    obtain ⟨p, vs, h3, h4, _, h5⟩ := h.own i xs h1
    rw [h2] at h3
    cases h3
    exact ⟨_, h4, .lst, h5⟩
  | sub h1 h2 =>
    obtain ⟨_, ⟨vs, _, z⟩, _⟩ := h.nst i _ _ h1
    obtain ⟨us, a, _, b⟩ := z.at_ h2
    exact ⟨_, a, .lst, b⟩
  | reg h1 h2 =>
    obtain ⟨v, _, h3, h4⟩ := h.reg i _ h1
    obtain ⟨o', z, m⟩ := Reg.there _ h3 h2
    exact ⟨o', z, m, h4 _ h2⟩
theorem OwnAt.there (h : Rel K g) {a : Addr} (o : OwnAt g.ρ g.σ a) : ∃ o', g.H a = some o' ∧ Mut o' := let ⟨o', z, m, _⟩ := o.at_ h; ⟨o', z, m⟩
theorem OwnAt.hs (h : Rel K g) {a : Addr} (o : OwnAt g.ρ g.σ a) : g.Hs a = none := let ⟨_, _, _, z⟩ := o.at_ h; z
/-- a new tuple's lists over a step -/
theorem Ext.hs_none {a : Addr} {o : HO} (e : Ext fx g g') (h : g.H a = some o) (n : g.Hs a = none) (no : ¬ OwnAt g.ρ g.σ a) (m : Mut o) : g'.Hs a = none := by
  cases w : g'.Hs a with
  | none => rfl
  | some o' =>
    rcases e.new a o' w n with ⟨z, _⟩ | ⟨z, _⟩ | ⟨z1, z2⟩
    · rw [h] at z
      cases z
    · exact absurd z no
    · have : o = o' := Option.some.inj (h.symm.trans z2)
      exact absurd (this ▸ z1) m.not
theorem NstAt.keep {p : Addr} {its : List (D ⊕ (Addr × List D))} (e : Ext fx g g') (no : ∀ q ∈ p :: ads its, ¬ OwnAt g.ρ g.σ q) (z : NstAt K g.Hs g.H p its) : NstAt K g'.Hs g'.H p its := by
  refine z.mono e.same (fun vs t => e.frame p _ t (no p (by simp))) fun q xs us m y n => ?_
  have nq := no q (List.mem_cons_of_mem _ (ads_mem.mpr ⟨xs, m⟩))
  exact ⟨e.frame q _ y nq, e.hs_none y n nq Mut.lst⟩
theorem NstAt.there {Hs H : Hp} {p q : Addr} {its : List (D ⊕ (Addr × List D))} (z : NstAt K Hs H p its) (m : q ∈ p :: ads its) : ∃ o, H q = some o := by
  obtain ⟨⟨vs, a, b⟩, _⟩ := z
  rcases List.mem_cons.mp m with rfl | m
  · exact ⟨_, a⟩
  · obtain ⟨xs, m⟩ := ads_mem.mp m
    obtain ⟨us, c, _⟩ := b.at_ m
    exact ⟨_, c⟩
/-- a result is kept over what comes behind it -/
theorem Rep.keep (e : Ext fx g g') (hσ : g'.σ = g.σ) (hw : ∀ (i : Nat) (w : W), g.ρ[i]? = some (some w) → ∃ w', g'.ρ[i]? = some (some w')) (h : Rep K g H0 v r) : Rep K g' H0 v r := by
  cases r with
  | val d => exact dp_mono e.same _ _ h
  | own xs =>
    obtain ⟨p, vs, rfl, h1, h2, h3, h4, h5⟩ := h
    refine ⟨p, vs, rfl, e.frame p _ h1 h4, dpa_mono e.same _ _ h2, e.hs_none h1 h3 h4 Mut.lst, fun z => ?_, h5⟩
    · rcases e.own p z with z | z
      · exact h4 z
      · rw [h1] at z; cases z
  | var i =>
    obtain ⟨h1, w, h2⟩ := h
    exact ⟨by rw [hσ]; exact h1, hw i w h2⟩
  | nst p its =>
    obtain ⟨rfl, h1, h2, h3⟩ := h
    refine ⟨rfl, NstAt.keep e h2 h1, fun q hq z => ?_, h3⟩
    rcases e.own q z with y | y
    · exact h2 q hq y
    · obtain ⟨o, w⟩ := h1.there hq
      rw [y] at w
      cases w
theorem Rep.lk (h : Rel K g) (q : Rep K g H0 v r) (e : rd g.ρ r = some d) : Lk K g.Hs g.H v d := by
  cases r with
  | val d' =>
    cases e
    exact .inl q
  | own xs =>
    cases e
    obtain ⟨p, vs, rfl, h1, h2, _⟩ := q
    exact .inr ⟨p, vs, xs, rfl, rfl, h1, h2⟩
  | var i =>
    obtain ⟨h1, w, h2⟩ := q
    cases w with
    | val d' =>
      simp only [rd, h2, Option.some.injEq] at e
      subst e
      obtain ⟨v', h3, h4⟩ := h.val i d' h2
      rw [h1] at h3
      cases h3
      exact .inl h4
    | own xs =>
      simp only [rd, h2, Option.some.injEq] at e
      subst e
      obtain ⟨p, vs, h3, h4, h5, _⟩ := h.own i xs h2
      rw [h1] at h3
      cases h3
      exact .inr ⟨p, vs, xs, rfl, rfl, h4, h5⟩
    | exc a dd fs => simp [rd, h2] at e
    | nst p its => simp [rd, h2] at e
    | reg r => simp [rd, h2] at e
  | nst p its => cases e
theorem Lk.dp {Hs H : Hp} (s : Same Hs H) (h : Lk K Hs H v d) : Dp K H v d := by
  rcases h with h | ⟨p, vs, ds, rfl, rfl, h1, h2⟩
  · exact dp_mono s _ _ h
  · exact .lst (.inl (.inl h1)) (dpa_mono s _ _ h2)
theorem Lk.lst {Hs H : Hp} {ds : List D} (s : Same Hs H) (h : Lk K Hs H v (.list ds)) : ∃ p vs, v = .ref p ∧ SqL K H p vs ∧ DpAll K Hs vs ds := by
  rcases h with h | ⟨p, vs, ds', rfl, e, h1, h2⟩
  · cases h with
    | lst h1 h2 => exact ⟨_, _, rfl, s.seq h1, h2⟩
  · cases e
    exact ⟨p, vs, rfl, .inl (.inl h1), h2⟩
theorem Lk.tup {Hs H : Hp} {ds : List D} (s : Same Hs H) (h : Lk K Hs H v (.tuple ds)) : ∃ p vs, v = .ref p ∧ SqT K H p vs ∧ DpAll K Hs vs ds := by
  rcases h with h | ⟨p, vs, ds', rfl, e, h1, h2⟩
  · cases h with
    | tup h1 h2 => exact ⟨_, _, rfl, seqT_mono s h1, h2⟩
  · cases e
theorem Lk.int {Hs H : Hp} {i : Int} (h : Lk K Hs H v (.int i)) : v = .int i := by
  rcases h with h | ⟨p, vs, ds', rfl, e, h1, h2⟩
  · cases h; rfl
  · cases e
theorem Lk.bool {Hs H : Hp} {i : Bool} (h : Lk K Hs H v (.bool i)) : v = .bl i := by
  rcases h with h | ⟨p, vs, ds', rfl, e, h1, h2⟩
  · cases h; rfl
  · cases e
theorem Lk.non {Hs H : Hp} (h : Lk K Hs H v .none) : v = .non := by
  rcases h with h | ⟨p, vs, ds', rfl, e, h1, h2⟩
  · cases h; rfl
  · cases e
theorem Lk.str {Hs H : Hp} {x : Str} (h : Lk K Hs H v (.str x)) : v = .str x := by
  rcases h with h | ⟨p, vs, ds', rfl, e, h1, h2⟩
  · cases h; rfl
  · cases e

theorem get_set_self {α : Type} {l : List α} {i : Nat} {x y : α} (h : l[i]? = some x) : (l.set i y)[i]? = some y := List.getElem?_set_self (List.getElem?_eq_some_iff.mp h).1
theorem get_set {α : Type} {l : List α} {i j : Nat} {x y : α} (h : (l.set i y)[j]? = some x) : (i = j ∧ x = y) ∨ (i ≠ j ∧ l[j]? = some x) := by
  by_cases e : i = j
  · subst e
    by_cases hl : i < l.length
    · rw [List.getElem?_set_self hl] at h
      cases h
      exact .inl ⟨rfl, rfl⟩
    · rw [List.getElem?_eq_none (by simpa using hl)] at h
      cases h
  · rw [List.getElem?_set_ne e] at h
    exact .inr ⟨e, h⟩

/-- made data, over the whole way from the start g -/
theorem freeze {ρ' : Rho} (e : Ext fx g g') (h : Rel K g') (q : Rep K g' (bg g) v r) (z : fz g'.ρ r = some (d, ρ')) :
    ∃ Hs', Rel K ⟨Hs', ρ', g'.σ, g'.H⟩ ∧ Ext fx g ⟨Hs', ρ', g'.σ, g'.H⟩ ∧ Dp K Hs' v d ∧ (∀ (i : Nat) (w : W), g'.ρ[i]? = some (some w) → ∃ w', ρ'[i]? = some (some w')) ∧ ρ'.length = g'.ρ.length := by
  obtain ⟨Hs, ρ, σ, H⟩ := g'
  -- a list at p becomes shared
  have go : ∀ (p : Addr) (vs : List V) (xs : List D) (ρ1 : Rho), H p = some (.lst vs) → DpAll K Hs vs xs → Hs p = none → (g.H p = none ∨ OwnAt g.ρ g.σ p) →
      ρ1.length = ρ.length → (∀ (i : Nat) (ys : List D), ρ1[i]? = some (some (.own ys)) → ρ[i]? = some (some (.own ys)) ∧ σ[i]? ≠ some (some (.ref p))) →
      (∀ (i : Nat) (d : D), ρ1[i]? = some (some (.val d)) → ρ[i]? = some (some (.val d)) ∨ (d = .list xs ∧ σ[i]? = some (some (.ref p)))) →
      (∀ (i : Nat) (a dd : Addr) (fs : List (Str × D)), ρ1[i]? = some (some (.exc a dd fs)) → ρ[i]? = some (some (.exc a dd fs))) →
      (∀ (i : Nat) (q : Addr) (its : List (D ⊕ (Addr × List D))), ρ1[i]? = some (some (.nst q its)) → ρ[i]? = some (some (.nst q its)) ∧ p ∉ ads its) →
      (∀ (i : Nat) (r : Reg), ρ1[i]? = some (some (.reg r)) → ρ[i]? = some (some (.reg r)) ∧ ¬ r.ads p) →
      Rel K ⟨upd Hs p (.lst vs), ρ1, σ, H⟩ ∧ Ext fx g ⟨upd Hs p (.lst vs), ρ1, σ, H⟩ ∧ Dp K (upd Hs p (.lst vs)) (.ref p) (.list xs) := by
    intro p vs xs ρ1 h1 h2 h3 h4 hl ho hv hxc hnt hrg
    have ows : ∀ (i : Nat) (a : Addr) (ys : List D), Owns ρ1 σ i a ys → Owns ρ σ i a ys := fun i a ys o => by
      cases o with
      | top a1 a2 => exact .top (ho i ys a1).1 a2
      | sub a1 a2 => exact .sub (hnt i _ _ a1).1 a2
      | reg a1 a2 => exact .reg (hrg i _ a1).1 a2
    have sm : Same Hs (upd Hs p (.lst vs)) := fun b o hb => by rw [upd_ne (ne_of_none hb h3)]; exact hb
    have dp : Dp K (upd Hs p (.lst vs)) (.ref p) (.list xs) := .lst (.inl (.inl upd_same)) (dpa_mono sm _ _ h2)
    refine ⟨⟨h.len.trans hl.symm, fun b o hb => ?_, fun i d' hd => ?_, fun i ys hy => ?_, fun i j p' ys zs a b => h.sepO i j p' ys zs (ows i p' ys a) (ows j p' zs b), fun i q its hx => ?_, fun i a dd fs hx => let ⟨q1, q2⟩ := h.exc i a dd fs (hxc i a dd fs hx); ⟨q1, q2.mono sm fun _ k => k⟩, fun i r hx => ?_⟩, ⟨e.same.trans sm, fun a o ha n => ?_, e.frame, e.dom, fun a oa => ?_, e.fix, e.len⟩, dp⟩
    · by_cases hb' : b = p
      · subst hb'
        have hb2 : upd Hs b (.lst vs) b = some o := hb
        rw [upd_same] at hb2
        cases hb2
        exact h1
      · have hb2 : upd Hs p (.lst vs) b = some o := hb
        rw [upd_ne hb'] at hb2
        exact h.same b o hb2
    · rcases hv i d' hd with z | ⟨rfl, z⟩
      · obtain ⟨v', a, b⟩ := h.val i d' z
        exact ⟨v', a, dp_mono sm _ _ b⟩
      · exact ⟨_, z, dp⟩
    · obtain ⟨a, b⟩ := ho i ys hy
      obtain ⟨p', vs', c1, c2, c3, c4⟩ := h.own i ys a
      refine ⟨p', vs', c1, c2, dpa_mono sm _ _ c3, ?_⟩
      have : p' ≠ p := fun q => b (by rw [← q]; exact c1)
      show upd Hs p (.lst vs) p' = none
      rw [upd_ne this]
      exact c4
    · obtain ⟨a, b⟩ := hnt i q its hx
      obtain ⟨c1, c2⟩ := h.nst i q its a
      refine ⟨c1, c2.mono sm (fun _ k => k) fun q' ys us m y n => ⟨y, ?_⟩⟩
      have : q' ≠ p := fun z => b (ads_mem.mpr ⟨ys, by rw [← z]; exact m⟩)
      show upd Hs p (.lst vs) q' = none
      rw [upd_ne this]
      exact n
    · obtain ⟨a, b⟩ := hrg i r hx
      obtain ⟨v', c1, c2⟩ := h.reg i r a
      refine ⟨v', c1, c2.mono sm fun q o m y n => ⟨y, ?_⟩⟩
      show upd Hs p (.lst vs) q = none
      rw [upd_ne (fun z => b (by rw [← z]; exact m))]
      exact n
    · have ha2 : upd Hs p (.lst vs) a = some o := ha
      by_cases hb' : a = p
      · subst hb'
        rw [upd_same] at ha2
        have nf : Nfz o := by
          rw [← Option.some.inj ha2]
          exact Nfz.lst
        exact h4.imp (fun z => ⟨z, nf⟩) fun z => .inl ⟨z, nf⟩
      · rw [upd_ne hb'] at ha2
        exact e.new a o ha2 n
    · obtain ⟨i, ys, o⟩ := oa
      exact e.own a ⟨i, ys, ows i a ys o⟩
  cases r with
  | val d' =>
    cases z
    exact ⟨Hs, h, e, q, fun i w hi => ⟨w, hi⟩, rfl⟩
  | own xs =>
    cases z
    obtain ⟨p, vs, rfl, h1, h2, h3, h4, h5⟩ := q
    obtain ⟨a, b, c⟩ := go p vs xs ρ h1 h2 h3 h5 rfl (fun i ys hy => ⟨hy, fun z => h4 (.top hy z)⟩) (fun i d' hd => .inl hd) (fun _ _ _ _ k => k) (fun i q its hx => ⟨hx, fun z => let ⟨ys, m⟩ := ads_mem.mp z; h4 ⟨i, ys, .sub hx m⟩⟩) (fun i r hx => ⟨hx, fun z => h4 ⟨i, [], .reg hx z⟩⟩)
    exact ⟨_, a, b, c, fun i w hi => ⟨w, hi⟩, rfl⟩
  | var i =>
    obtain ⟨h1, w, h2⟩ := q
    have h2 : ρ[i]? = some (some w) := h2
    have h1 : σ[i]? = some (some v) := h1
    cases w with
    | val d' =>
      simp only [fz, h2, Option.some.injEq, Prod.mk.injEq] at z
      obtain ⟨rfl, rfl⟩ := z
      obtain ⟨v', h3, h4⟩ := h.val i d' h2
      rw [show (Gst.mk Hs ρ σ H).σ[i]? = some (some v) from h1] at h3
      cases h3
      exact ⟨Hs, h, e, h4, fun i w hi => ⟨w, hi⟩, rfl⟩
    | own xs =>
      simp only [fz, h2, Option.some.injEq, Prod.mk.injEq] at z
      obtain ⟨rfl, rfl⟩ := z
      obtain ⟨p, vs, h3, h4, h5, h6⟩ := h.own i xs h2
      rw [show (Gst.mk Hs ρ σ H).σ[i]? = some (some v) from h1] at h3
      cases h3
      obtain ⟨a, b, c⟩ := go p vs xs (ρ.set i (some (.val (.list xs)))) h4 h5 h6 ((e.own p (.top h2 h1)).symm) (List.length_set ..) (fun j ys hy => by
        rcases get_set hy with ⟨_, z⟩ | ⟨ne, z⟩
        · cases z
        · exact ⟨z, fun q => ne (h.sep i j p xs ys h2 z h1 q)⟩) (fun j d' hd => by
        rcases get_set hd with ⟨rfl, z⟩ | ⟨ne, z⟩
        · cases z
          exact .inr ⟨rfl, h1⟩
        · exact .inl z) (fun j a dd fs hd => by
        rcases get_set hd with ⟨rfl, z⟩ | ⟨ne, z⟩
        · cases z
        · exact z) (fun j q its hd => by
        rcases get_set hd with ⟨rfl, z⟩ | ⟨ne, z⟩
        · cases z
        · refine ⟨z, fun y => ?_⟩
          obtain ⟨ys, m⟩ := ads_mem.mp y
          exact ne (h.sepO i j p xs ys (.top h2 h1) (.sub z m))) (fun j r hd => by
        rcases get_set hd with ⟨rfl, z⟩ | ⟨ne, z⟩
        · cases z
        · exact ⟨z, fun y => ne (h.sepO i j p xs [] (.top h2 h1) (.reg z y))⟩)
      refine ⟨_, a, b, c, fun j w hj => ?_, List.length_set ..⟩
      by_cases hij : i = j
      · subst hij
        exact ⟨_, get_set_self hj⟩
      · exact ⟨w, (List.getElem?_set_ne hij).trans hj⟩
    | exc a dd fs => simp [fz, h2] at z
    | nst p its => simp [fz, h2] at z
    | reg r => simp [fz, h2] at z
  | nst p its => cases z
end
end RR

/-! LayB: expressions. -/
namespace RR
open PySem PySem.Spec L2

/-! ### lifting -/
structure GoE (fx : List Nat) (g g' : Gst) : Prop where
  ext : Ext fx g g'
  sg : g'.σ = g.σ
  kp : ∀ (i : Nat) (w : W), g.ρ[i]? = some (some w) → ∃ w', g'.ρ[i]? = some (some w')
section
variable {fx : List Nat} {g g' g'' : Gst}
theorem GoE.refl : GoE fx g g := ⟨.refl, rfl, fun _ w h => ⟨w, h⟩⟩
theorem GoE.trans (a : GoE fx g g') (b : GoE fx g' g'') : GoE fx g g'' := ⟨a.ext.trans b.ext, b.sg.trans a.sg, fun i w h => let ⟨w', h'⟩ := a.kp i w h; b.kp i w' h'⟩
theorem GoE.keep {K : PySem.W.Frag} {H0 : Bg} {v : V} {r : R} (a : GoE fx g g') (h : Rep K g H0 v r) : Rep K g' H0 v r := h.keep a.ext a.sg a.kp
end
/-- an exception as it lies -/
def XRep (mg : Str → Option Value) (K : PySem.W.Frag) (g : Gst) (cls : Value) (d : Option Addr) (x : Xc) : Prop :=
  mg x.cls = some cls ∧ ((x.fs = [] ∧ d = none) ∨ ∃ dd fv, x.fs ≠ [] ∧ d = some dd ∧ g.H dd = some (.xd fv) ∧ fv.map (·.1) = x.fs.map (·.1) ∧ DpAll K g.Hs (fv.map (·.2)) (x.fs.map (·.2)))
def XOk (X : Cx) (fx : List Nat) (Wx : WX) (g : Gst) (PX : PostX) : Prop := ∀ g' cls d x, Rel X.K g' → Ext fx g g' → XRep X.mg X.K g' cls d x → PX x g'.ρ → Wx cls d g'.σ g'.H
theorem XOk.go {X : Cx} {fx : List Nat} {Wx : WX} {g g' : Gst} {PX : PostX} (h : XOk X fx Wx g PX) (e : Ext fx g g') : XOk X fx Wx g' PX := fun g2 cls d x r e2 => h g2 cls d x r (e.trans e2)
def liftE (X : Cx) (fx : List Nat) (Wx : WX) (t : TeD) : TE := fun σ H Q => ∃ (Hs : Hp) (ρ : Rho) (P : PostE) (PX : PostX), Rel X.K ⟨Hs, ρ, σ, H⟩ ∧ t ρ P PX ∧
  (∀ g' v r, Rel X.K g' → GoE fx ⟨Hs, ρ, σ, H⟩ g' → Rep X.K g' (bg ⟨Hs, ρ, σ, H⟩) v r → P r g'.ρ → Q v g'.H) ∧ XOk X fx Wx ⟨Hs, ρ, σ, H⟩ PX
abbrev Pv (X : Cx) (fx : List Nat) (Wx : WX) (e : Expr) (t : TeD) : Prop := PE X e (liftE X fx Wx t)
abbrev TtD := Rho → (Bool → Rho → Prop) → PostX → Prop
def liftT (X : Cx) (fx : List Nat) (Wx : WX) (t : TtD) : TT := fun σ H Q => ∃ (Hs : Hp) (ρ : Rho) (P : Bool → Rho → Prop) (PX : PostX), Rel X.K ⟨Hs, ρ, σ, H⟩ ∧ t ρ P PX ∧
  (∀ g' b, Rel X.K g' → GoE fx ⟨Hs, ρ, σ, H⟩ g' → P b g'.ρ → Q b g'.H) ∧ XOk X fx Wx ⟨Hs, ρ, σ, H⟩ PX
abbrev PvT (X : Cx) (fx : List Nat) (Wx : WX) (e : Expr) (t : TtD) : Prop := PT X e (liftT X fx Wx t)
abbrev PvW (X : Cx) (fx : List Nat) (Wx : WX) (e : Expr) (t : TtD) : Prop := PW X e (liftT X fx Wx t)
/-- argument lists: made data, or what a slot holds (which the callee may change) -/
abbrev TaD := Rho → (List R → Rho → Prop) → PostX → Prop
def RepAll (K : PySem.W.Frag) (g : Gst) (H0 : Bg) : List V → List R → Prop
  | [], [] => True
  | v :: vs, r :: rs => Rep K g H0 v r ∧ RepAll K g H0 vs rs
  | _, _ => False
def liftA (X : Cx) (fx : List Nat) (Wx : WX) (t : TaD) : TA := fun σ H Q => ∃ (Hs : Hp) (ρ : Rho) (P : List R → Rho → Prop) (PX : PostX), Rel X.K ⟨Hs, ρ, σ, H⟩ ∧ t ρ P PX ∧
  (∀ g' vs rs, Rel X.K g' → GoE fx ⟨Hs, ρ, σ, H⟩ g' → RepAll X.K g' (bg ⟨Hs, ρ, σ, H⟩) vs rs → P rs g'.ρ → Q vs g'.H) ∧ XOk X fx Wx ⟨Hs, ρ, σ, H⟩ PX
abbrev PvA (X : Cx) (fx : List Nat) (Wx : WX) (es : List Expr) (t : TaD) : Prop := PA X es (liftA X fx Wx t)

section
variable {X : Cx} {fx : List Nat} {Wx : WX} {e a b c : Expr} {es : List Expr} {pos : Pos}
theorem PE.imp {t t' : TE} (h : PE X e t) (i : ∀ σ H Q, t' σ H Q → t σ H Q) : PE X e t' := ⟨fun pins s σ H Q I q => h.run pins s σ H Q I (i σ H Q q)⟩
theorem PT.imp {t t' : TT} (h : PT X e t) (i : ∀ σ H Q, t' σ H Q → t σ H Q) : PT X e t' := ⟨fun pins s σ H Q I q => h.run pins s σ H Q I (i σ H Q q)⟩
theorem PW.imp {t t' : TT} (h : PW X e t) (i : ∀ σ H Q, t' σ H Q → t σ H Q) : PW X e t' := ⟨fun wh pins s σ H Q I q => h.run wh pins s σ H Q I (i σ H Q q)⟩
theorem PA.imp {t t' : TA} (h : PA X es t) (i : ∀ σ H Q, t' σ H Q → t σ H Q) : PA X es t' := ⟨fun ps pins s σ H Q I q => h.run ps pins s σ H Q I (i σ H Q q)⟩

theorem RepAll.keep {K : PySem.W.Frag} {fx : List Nat} {g g' : Gst} {H0 : Bg} (a : GoE fx g g') : ∀ {vs : List V} {rs : List R}, RepAll K g H0 vs rs → RepAll K g' H0 vs rs
  | [], [], _ => trivial
  | _ :: _, _ :: _, h => ⟨a.keep h.1, RepAll.keep a h.2⟩
  | [], _ :: _, h => h.elim
  | _ :: _, [], h => h.elim
/-- the start of the heap may lie further back -/
theorem Rep.back {K : PySem.W.Frag} {fx : List Nat} {g0 g g' : Gst} {v : V} {r : R} (e : Ext fx g0 g) (h : Rep K g' (bg g) v r) : Rep K g' (bg g0) v r := by
  cases r with
  | val d => exact h
  | var i => exact h
  | own xs =>
    obtain ⟨p, vs, h1, h2, h3, h4, h5, h6⟩ := h
    refine ⟨p, vs, h1, h2, h3, h4, h5, ?_⟩
    rcases h6 with y | y
    · left
      show g0.H p = none
      have y : g.H p = none := y
      cases q : g0.H p with
      | none => rfl
      | some o =>
        obtain ⟨o', z⟩ := e.dom p o q
        rw [y] at z; cases z
    · exact (e.own p y).symm
  | nst p its =>
    obtain ⟨h1, h2, h3, h4⟩ := h
    refine ⟨h1, h2, h3, fun a ha => ?_⟩
    rcases h4 a ha with y | y
    · left
      show g0.H a = none
      have y : g.H a = none := y
      cases q : g0.H a with
      | none => rfl
      | some o =>
        obtain ⟨o', z⟩ := e.dom a o q
        rw [y] at z; cases z
    · exact (e.own a y).symm
theorem RepAll.back {K : PySem.W.Frag} {fx : List Nat} {g0 g g' : Gst} (e : Ext fx g0 g) : ∀ {vs : List V} {rs : List R}, RepAll K g' (bg g) vs rs → RepAll K g' (bg g0) vs rs
  | [], [], _ => trivial
  | _ :: _, _ :: _, h => ⟨h.1.back e, RepAll.back e h.2⟩
  | [], _ :: _, h => h.elim
  | _ :: _, [], h => h.elim

/-! ### names, constants -/
def tVar (i : Nat) : TeD := fun ρ P _ => match ρ[i]? with
  | some (some (.val d)) => P (.val d) ρ
  | some (some (.own _)) => P (.var i) ρ
  | some (some (.exc _ _ _)) => P (.var i) ρ
  | some (some (.nst _ _)) => P (.var i) ρ
  | some (some (.reg _)) => P (.var i) ρ
  | _ => False
theorem pv_var (i : Nat) {x : Str} (hN : X.N[i]? = some x := by rfl) (hv : Vis X.env.scope x := by first | exact Or.inl rfl | exact Or.inr (Or.inl rfl) | exact Or.inr (Or.inr rfl)) (hd : (x == ("__debug__" : Str)) = false := by decide)
    (hcd : (x == ("__classdict__" : Str)) = false := by decide) : Pv X fx Wx (.Name x pos) (tVar i) := by
  refine PE.imp (pe_var hN hv hd hcd) fun σ H Q h => ?_
  obtain ⟨Hs, ρ, P, PX, hr, ht, hq, _⟩ := h
  unfold tVar at ht
  split at ht
  · next d hd =>
    obtain ⟨v, h1, h2⟩ := hr.val i d hd
    exact ⟨v, h1, hq ⟨Hs, ρ, σ, H⟩ v (.val d) hr .refl h2 ht⟩
  · next xs hd =>
    obtain ⟨p, vs, h1, h2⟩ := hr.own i xs hd
    exact ⟨_, h1, hq ⟨Hs, ρ, σ, H⟩ (.ref p) (.var i) hr .refl ⟨h1, _, hd⟩ ht⟩
  · next a dd fs hd =>
    have h1 := (hr.exc i a dd fs hd).1
    exact ⟨_, h1, hq ⟨Hs, ρ, σ, H⟩ (.ref a) (.var i) hr .refl ⟨h1, _, hd⟩ ht⟩
  · next p its hd =>
    have h1 := (hr.nst i p its hd).1
    exact ⟨_, h1, hq ⟨Hs, ρ, σ, H⟩ (.ref p) (.var i) hr .refl ⟨h1, _, hd⟩ ht⟩
  · next r hd =>
    obtain ⟨v, h1, _⟩ := hr.reg i r hd
    exact ⟨v, h1, hq ⟨Hs, ρ, σ, H⟩ v (.var i) hr .refl ⟨h1, _, hd⟩ ht⟩
  · exact ht.elim
/-- a constant -/
def tK (d : D) : TeD := fun ρ P _ => P (.val d) ρ
theorem pv_c {v : V} {d : D} (h : PE X e (tC v)) (k : ∀ Hs, Dp X.K Hs v d) : Pv X fx Wx e (tK d) := by
  refine PE.imp h fun σ H Q h => ?_
  obtain ⟨Hs, ρ, P, PX, hr, ht, hq, _⟩ := h
  exact hq ⟨Hs, ρ, σ, H⟩ v (.val d) hr .refl (k Hs) ht
theorem pv_int {i j} : Pv X fx Wx (.Constant (.int i) j pos) (tK (.int i)) := pv_c pe_int fun _ => .int i
theorem pv_bl {b j} : Pv X fx Wx (.Constant (.bool b) j pos) (tK (.bool b)) := pv_c pe_bl fun _ => .bl b
theorem pv_non {j} : Pv X fx Wx (.Constant .none j pos) (tK .none) := pv_c pe_non fun _ => .non
theorem pv_str {x j} : Pv X fx Wx (.Constant (.str x) j pos) (tK (.str x)) := pv_c pe_str fun _ => .str x
/-- a module's constant -/
theorem pv_glob {x : Str} {v : V} {u : Value} {d : D} (hg : Gl X x) (hm : X.mg x = some u) (r : RelV v u) (k : ∀ Hs, Dp X.K Hs v d) (hd : (x == ("__debug__" : Str)) = false := by decide) : Pv X fx Wx (.Name x pos) (tK d) := pv_c (pe_glob hg hm r hd) k

/-! ### operations -/
/-- what an operation leaves -/
def Res (K : PySem.W.Frag) (Hs H : Hp) (v : V) (H' : Hp) : R → Prop
  | .val d => ∃ Hs', Same Hs Hs' ∧ (∀ a o, Hs' a = some o → Hs a = none → H a = none ∧ Nfz o) ∧ Same Hs' H' ∧ Same H H' ∧ Dp K Hs' v d
  | .own xs => ∃ p vs, v = .ref p ∧ H p = none ∧ H' = upd H p (.lst vs) ∧ DpAll K Hs vs xs
  | .var _ => False
  | .nst _ _ => False
theorem Res.pure {K : PySem.W.Frag} {Hs H : Hp} {v : V} {d : D} (s : Same Hs H) (h : Dp K Hs v d) : Res K Hs H v H (.val d) := ⟨Hs, .refl _, fun a o h n => (by rw [h] at n; cases n), s, .refl _, h⟩
theorem same_upd {H : Hp} {p : Addr} {o : HO} (h : H p = none) : Same H (upd H p o) := fun b x e => by
  rw [upd_ne (ne_of_none e h)]
  exact e
/-- the state behind it -/
theorem Res.go {K : PySem.W.Frag} {g0 g : Gst} {v : V} {H' : Hp} {rr : R} (e : GoE fx g0 g) (h : Rel K g) (q : Res K g.Hs g.H v H' rr) :
    ∃ g', Rel K g' ∧ GoE fx g0 g' ∧ Rep K g' (bg g0) v rr ∧ g'.H = H' ∧ g'.ρ = g.ρ ∧ GoE fx g g' := by
  obtain ⟨Hs, ρ, σ, H⟩ := g
  cases rr with
  | val d =>
    obtain ⟨Hs', s1, s2, s3, s4, s5⟩ := q
    have sm : Same H H' := s4
    have go : GoE fx ⟨Hs, ρ, σ, H⟩ ⟨Hs', ρ, σ, H'⟩ := ⟨⟨s1, fun a o x n => .inl (s2 a o x n), fun a o x _ => sm a o x, fun a o x => ⟨o, sm a o x⟩, fun a x => .inl x, fun _ _ => rfl, rfl⟩, rfl, fun i w x => ⟨w, x⟩⟩
    refine ⟨⟨Hs', ρ, σ, H'⟩, ⟨h.len, s3, fun i d hd => ?_, fun i xs hx => ?_, h.sepO, fun i p its hx => let ⟨q1, q2⟩ := h.nst i p its hx; ⟨q1, q2.mono s1 (fun _ k => sm _ _ k) fun q xs us _ y n => ⟨sm _ _ y, ?_⟩⟩, fun i a dd fs hx => let ⟨q1, q2⟩ := h.exc i a dd fs hx; ⟨q1, q2.mono s1 fun _ k => sm _ _ k⟩, fun i r hx => let ⟨v', q1, q2⟩ := h.reg i r hx; ⟨v', q1, q2.mono s1 fun q o _ y n => ⟨sm _ _ y, ?_⟩⟩⟩, e.trans go, s5, rfl, rfl, go⟩
    · obtain ⟨v, a, b⟩ := h.val i d hd
      exact ⟨v, a, dp_mono s1 _ _ b⟩
    · obtain ⟨p, vs, a, b, c, d⟩ := h.own i xs hx
      refine ⟨p, vs, a, sm _ _ b, dpa_mono s1 _ _ c, ?_⟩
      cases q : Hs' p with
      | none => exact q
      | some o =>
        have z := (s2 p o q d).1
        have b' : H p = some (.lst vs) := b
        rw [show (Gst.mk Hs ρ σ H).H p = H p from rfl, b'] at z
        cases z
    · cases w : Hs' q with
      | none => exact w
      | some o =>
        have z := (s2 q o w n).1
        have y : H q = some (.lst us) := y
        rw [show (Gst.mk Hs ρ σ H).H q = H q from rfl, y] at z
        cases z
    · cases w : Hs' q with
      | none => exact w
      | some o' =>
        have z := (s2 q o' w n).1
        have y : H q = some o := y
        rw [show (Gst.mk Hs ρ σ H).H q = H q from rfl, y] at z
        cases z
  | own xs =>
    obtain ⟨p, vs, rfl, n, rfl, da⟩ := q
    have n : H p = none := n
    have sm : Same H (upd H p (.lst vs)) := same_upd n
    have no : ¬ OwnAt ρ σ p := fun z => by
      obtain ⟨vs, z, _⟩ := OwnAt.there h z
      have z : H p = some vs := z
      rw [n] at z
      cases z
    have go : GoE fx ⟨Hs, ρ, σ, H⟩ ⟨Hs, ρ, σ, upd H p (.lst vs)⟩ := ⟨⟨.refl _, fun a o x n => (by rw [show (Gst.mk Hs ρ σ (upd H p (.lst vs))).Hs = (Gst.mk Hs ρ σ H).Hs from rfl, n] at x; cases x), fun a o x _ => sm a o x, fun a o x => ⟨o, sm a o x⟩, fun a x => .inl x, fun _ _ => rfl, rfl⟩, rfl, fun i w x => ⟨w, x⟩⟩
    refine ⟨⟨Hs, ρ, σ, upd H p (.lst vs)⟩, ⟨h.len, h.same.trans sm, h.val, fun i xs hx => ?_, h.sepO, fun i p its hx => let ⟨q1, q2⟩ := h.nst i p its hx; ⟨q1, q2.mono (.refl _) (fun _ k => sm _ _ k) fun q xs us _ y n => ⟨sm _ _ y, n⟩⟩, fun i a dd fs hx => let ⟨q1, q2⟩ := h.exc i a dd fs hx; ⟨q1, q2.mono (.refl _) fun _ k => sm _ _ k⟩, fun i r hx => let ⟨v', q1, q2⟩ := h.reg i r hx; ⟨v', q1, q2.mono (.refl _) fun q o _ y n => ⟨sm _ _ y, n⟩⟩⟩, e.trans go, ?_, rfl, rfl, go⟩
    · obtain ⟨p', vs', a, b, c, d⟩ := h.own i xs hx
      exact ⟨p', vs', a, sm _ _ b, c, d⟩
    · refine ⟨p, vs, rfl, upd_same, da, ?_, no, ?_⟩
      · cases q : Hs p with
        | none => exact q
        | some o =>
          have z : H p = some o := h.same p o q
          rw [n] at z; cases z
      · left
        show g0.H p = none
        cases q : g0.H p with
        | none => rfl
        | some o =>
          obtain ⟨o', z⟩ := e.ext.dom p o q
          have z : H p = some o' := z
          rw [n] at z; cases z
  | var i => exact q.elim
  | nst p its => exact q.elim

abbrev G2 := D → D → (R → Prop) → Prop
def Sem2 (K : PySem.W.Frag) (r : R2) (op : G2) : Prop := ∀ (Hs H : Hp) (x y : V) (dx dy : D) (P : R → Prop) (Q : VK), Same Hs H → Lk K Hs H x dx → Lk K Hs H y dy → op dx dy P → (∀ v H' rr, P rr → Res K Hs H v H' rr → Q v H') → r x y H Q
def tOp2 (op : G2) (ta tb : TeD) : TeD := fun ρ P PX => ta ρ (fun ra ρ1 => tb ρ1 (fun rb ρ2 => onSome (rd ρ2 ra) fun dx => onSome (rd ρ2 rb) fun dy => op dx dy (fun rr => P rr ρ2)) PX) PX
/-- from the two parts to the whole -/
theorem op2_imp {r : R2} {op : G2} {ta tb : TeD} (hs : Sem2 X.K r op) (σ : L2.St) (H : Hp) (Q : VK) (h : liftE X fx Wx (tOp2 op ta tb) σ H Q) : tOp r (liftE X fx Wx ta) (liftE X fx Wx tb) σ H Q := by
  obtain ⟨Hs, ρ, P, PX, hr, ht, hq, hx⟩ := h
  refine ⟨Hs, ρ, _, PX, hr, ht, fun g1 x ra h1 e1 rp1 p1 => ?_, hx⟩
  obtain ⟨Hs1, ρ1, σ1, H1⟩ := g1
  obtain rfl : σ1 = σ := e1.sg
  refine ⟨Hs1, ρ1, _, PX, h1, p1, fun g2 y rb h2 e2 rp2 p2 => ?_, hx.go e1.ext⟩
  obtain ⟨dx, q1, p2⟩ := onSome_ex p2
  obtain ⟨dy, q2, q3⟩ := onSome_ex p2
  refine hs g2.Hs g2.H x y dx dy _ Q h2.same ((e2.keep rp1).lk h2 q1) (rp2.lk h2 q2) q3 fun v H' rr z res => ?_
  obtain ⟨g', a, b, c, rfl, d, _⟩ := res.go (e1.trans e2) h2
  exact hq g' v rr a b c (by rw [d]; exact z)
theorem pv_bin {op : Operator} {r : R2} {g : G2} {ta tb : TeD} (ho : OpR X (binaryOp op) r) (hs : Sem2 X.K r g) (ha : Pv X fx Wx a ta) (hb : Pv X fx Wx b tb) : Pv X fx Wx (.BinOp a op b pos) (tOp2 g ta tb) := PE.imp (pe_op ho ha hb) (op2_imp hs)
theorem pv_cmp {op : CmpOp} {r : R2} {g : G2} {ta tb : TeD} (ho : OpR X (compareOp op) r) (hs : Sem2 X.K r g) (ha : Pv X fx Wx a ta) (hb : Pv X fx Wx b tb) (hm : behindInMarks op b = false) : Pv X fx Wx (.Compare a [op] [b] pos) (tOp2 g ta tb) := PE.imp (pe_cmpR ho ha hb hm) (op2_imp hs)
theorem pv_ix {r : R2} {g : G2} {ta tb : TeD} (ho : IxR X r) (hs : Sem2 X.K r g) (ha : Pv X fx Wx a ta) (hb : Pv X fx Wx b tb) (hp : PlainIx b := by exact fun _ _ => rfl) : Pv X fx Wx (.Subscript a b pos) (tOp2 g ta tb) := PE.imp (pe_ix ho ha hb hp) (op2_imp hs)
/-- a test of an expression that gives a truth -/
def tTst (t : TeD) : TtD := fun ρ P PX => t ρ (fun r ρ1 => onSome (asB (rd ρ1 r)) fun b => P b ρ1) PX
theorem pvT_val {t : TeD} (h : Pv X fx Wx e t) (he : ∀ whole, isTrue e X.env whole = (do let v ← whole; standAt e.pos; holding [v] (truthy v)) := by intro _; rfl) : PvT X fx Wx e (tTst t) := by
  refine PT.imp (pt_val h he) fun σ H Q h => ?_
  obtain ⟨Hs, ρ, P, PX, hr, ht, hq, hx⟩ := h
  refine ⟨Hs, ρ, _, PX, hr, ht, fun g1 x ra h1 e1 rp1 p1 => ?_, hx⟩
  obtain ⟨b, q1, q2⟩ := onSome_ex p1
  obtain rfl := (rp1.lk h1 (asB_of q1)).bool
  exact ⟨b, rfl, hq g1 b h1 e1 q2⟩
theorem pvT_cmp {op : CmpOp} {r : R2} {g : G2} {ta tb : TeD} (ho : OpR X (compareOp op) r) (hs : Sem2 X.K r g) (ha : Pv X fx Wx a ta) (hb : Pv X fx Wx b tb) (hm : behindInMarks op b = false) : PvT X fx Wx (.Compare a [op] [b] pos) (tTst (tOp2 g ta tb)) := by
  refine PT.imp (pt_cmpR ho ha hb hm) fun σ H Q h => ?_
  obtain ⟨Hs, ρ, P, PX, hr, ht, hq, hx⟩ := h
  refine op2_imp (X := X) (fx := fx) (Wx := Wx) (op := g) (ta := ta) (tb := tb) hs σ H _ ⟨Hs, ρ, _, PX, hr, ht, fun g1 x ra h1 e1 rp1 p1 => ?_, hx⟩
  obtain ⟨b, q1, q2⟩ := onSome_ex p1
  obtain rfl := (rp1.lk h1 (asB_of q1)).bool
  exact ⟨b, rfl, hq g1 b h1 e1 q2⟩
/-- a < b < c -/
def tChn (g g' : G2) (ta tb tc : TeD) : TeD := fun ρ P PX => ta ρ (fun ra ρ1 => tb ρ1 (fun rb ρ2 => onSome (rd ρ2 ra) fun dx => onSome (rd ρ2 rb) fun dy => g dx dy (fun r1 => onSome (asB (rd ρ2 r1)) fun k =>
  br k (tc ρ2 (fun rc ρ3 => onSome (rd ρ3 rb) fun dy => onSome (rd ρ3 rc) fun dz => g' dy dz (fun rr => P rr ρ3)) PX) (P (.val (.bool false)) ρ2))) PX) PX

/-! ### and, or, not, if -/
def tAndT (t u : TtD) : TtD := fun ρ P PX => t ρ (fun c ρ1 => br c (u ρ1 P PX) (P false ρ1)) PX
def tOrT (t u : TtD) : TtD := fun ρ P PX => t ρ (fun c ρ1 => br c (P true ρ1) (u ρ1 P PX)) PX
def tNotT (t : TtD) : TtD := fun ρ P PX => t ρ (fun c ρ1 => P (!c) ρ1) PX
theorem goT {t : TtD} {u : TT} {f : Bool → TtD} {σ : L2.St} {H : Hp} {Q : Bool → Hp → Prop}
    (h : liftT X fx Wx (fun ρ P PX => t ρ (fun c ρ1 => f c ρ1 P PX) PX) σ H Q) (k : ∀ c H1, liftT X fx Wx (f c) σ H1 Q → u σ H1 (fun c' H1 => Q c' H1) ∨ True) (F : Bool → Hp → Prop) (hF : ∀ c H1, liftT X fx Wx (f c) σ H1 Q → F c H1) : liftT X fx Wx t σ H F := by
  obtain ⟨Hs, ρ, P, PX, hr, ht, hq, hx⟩ := h
  refine ⟨Hs, ρ, _, PX, hr, ht, fun g1 c h1 e1 p1 => ?_, hx⟩
  obtain ⟨Hs1, ρ1, σ1, H1⟩ := g1
  obtain rfl : σ1 = σ := e1.sg
  exact hF c H1 ⟨Hs1, ρ1, P, PX, h1, p1, fun g2 b h2 e2 p2 => hq g2 b h2 (e1.trans e2) p2, hx.go e1.ext⟩
/-- from a part to the whole: behind t comes f -/
theorem bindT {t : TtD} {f : Bool → TtD} {σ : L2.St} {H : Hp} {Q : Bool → Hp → Prop} {F : Bool → Hp → Prop}
    (h : liftT X fx Wx (fun ρ P PX => t ρ (fun c ρ1 => f c ρ1 P PX) PX) σ H Q) (hF : ∀ c H1, liftT X fx Wx (f c) σ H1 Q → F c H1) : liftT X fx Wx t σ H F := by
  obtain ⟨Hs, ρ, P, PX, hr, ht, hq, hx⟩ := h
  refine ⟨Hs, ρ, _, PX, hr, ht, fun g1 c h1 e1 p1 => ?_, hx⟩
  obtain ⟨Hs1, ρ1, σ1, H1⟩ := g1
  obtain rfl : σ1 = σ := e1.sg
  exact hF c H1 ⟨Hs1, ρ1, P, PX, h1, p1, fun g2 b h2 e2 p2 => hq g2 b h2 (e1.trans e2) p2, hx.go e1.ext⟩
theorem doneT {b : Bool} {σ : L2.St} {H : Hp} {Q : Bool → Hp → Prop} (h : liftT X fx Wx (fun ρ P _ => P b ρ) σ H Q) : Q b H := by
  obtain ⟨Hs, ρ, P, PX, hr, ht, hq, hx⟩ := h
  exact hq ⟨Hs, ρ, σ, H⟩ b hr .refl ht
theorem pvW_and1 {t : TtD} (h : PvT X fx Wx a t) : PvW X fx Wx (.BoolOp .And [a] pos) t := pw_and1 h
theorem pvW_or1 {t : TtD} (h : PvT X fx Wx a t) : PvW X fx Wx (.BoolOp .Or [a] pos) t := pw_or1 h
theorem pvW_and {t u : TtD} {rest : List Expr} (h : PvT X fx Wx a t) (k : PvW X fx Wx (.BoolOp .And (b :: rest) pos) u) : PvW X fx Wx (.BoolOp .And (a :: b :: rest) pos) (tAndT t u) := by
  refine PW.imp (pw_and h k) fun σ H Q h => ?_
  refine bindT (f := fun c ρ P PX => br c (u ρ P PX) (P false ρ)) h fun c H1 z => ?_
  cases c with
  | true => exact z
  | false => exact doneT (b := false) z
theorem pvW_or {t u : TtD} {rest : List Expr} (h : PvT X fx Wx a t) (k : PvW X fx Wx (.BoolOp .Or (b :: rest) pos) u) : PvW X fx Wx (.BoolOp .Or (a :: b :: rest) pos) (tOrT t u) := by
  refine PW.imp (pw_or h k) fun σ H Q h => ?_
  refine bindT (f := fun c ρ P PX => br c (P true ρ) (u ρ P PX)) h fun c H1 z => ?_
  cases c with
  | false => exact z
  | true => exact doneT (b := true) z
theorem pvT_not {t : TtD} (h : PvT X fx Wx a t) : PvT X fx Wx (.UnaryOp .Not a pos) (tNotT t) := by
  refine PT.imp (pt_not h) fun σ H Q h => ?_
  exact bindT (f := fun c ρ P PX => P (!c) ρ) h fun c H1 z => doneT (b := !c) z
/-- as values -/
def tBoolE (t : TtD) : TeD := fun ρ P PX => t ρ (fun c ρ1 => P (.val (.bool c)) ρ1) PX
theorem bindE {t : TeD} {f : R → TeD} {σ : L2.St} {H : Hp} {Q : VK} {F : VK}
    (h : liftE X fx Wx (fun ρ P PX => t ρ (fun c ρ1 => f c ρ1 P PX) PX) σ H Q)
    (hF : ∀ v r g (b : Bg), Rel X.K g → g.σ = σ → Rep X.K g b v r → liftE X fx Wx (fun ρ P PX => ρ = g.ρ ∧ f r ρ P PX) σ g.H Q → F v g.H) : liftE X fx Wx t σ H F := by
  obtain ⟨Hs, ρ, P, PX, hr, ht, hq, hx⟩ := h
  refine ⟨Hs, ρ, _, PX, hr, ht, fun g1 v r h1 e1 rp1 p1 => ?_, hx⟩
  have e := e1
  obtain ⟨Hs1, ρ1, σ1, H1⟩ := g1
  obtain rfl : σ1 = σ := e1.sg
  exact hF v r ⟨Hs1, ρ1, σ1, H1⟩ _ h1 rfl rp1 ⟨Hs1, ρ1, P, PX, h1, ⟨rfl, p1⟩, fun g2 b r2 h2 e2 rp2 p2 => hq g2 b r2 h2 (e1.trans e2) (rp2.back (g' := g2) e1.ext) p2, hx.go e1.ext⟩
def tAndE (t u : TeD) : TeD := fun ρ P PX => t ρ (fun r ρ1 => onSome (asB (rd ρ1 r)) fun c => br c (u ρ1 P PX) (P (.val (.bool false)) ρ1)) PX
def tOrE (t u : TeD) : TeD := fun ρ P PX => t ρ (fun r ρ1 => onSome (asB (rd ρ1 r)) fun c => br c (P (.val (.bool true)) ρ1) (u ρ1 P PX)) PX
def tNotE (t : TeD) : TeD := fun ρ P PX => t ρ (fun r ρ1 => onSome (asB (rd ρ1 r)) fun c => P (.val (.bool (!c))) ρ1) PX
theorem doneE {b : Bool} {σ : L2.St} {H : Hp} {Q : VK} (h : liftE X fx Wx (fun ρ P _ => P (.val (.bool b)) ρ) σ H Q) : Q (.bl b) H := by
  obtain ⟨Hs, ρ, P, PX, hr, ht, hq, hx⟩ := h
  exact hq ⟨Hs, ρ, σ, H⟩ (.bl b) (.val (.bool b)) hr .refl (Dp.bl b) ht
theorem pv_one {op} {t : TeD} (h : Pv X fx Wx a t) : Pv X fx Wx (.BoolOp op [a] pos) t := pe_one h
theorem boolE {t : TeD} {f : Bool → TeD} {σ : L2.St} {H : Hp} {Q : VK} {F : VK}
    (h : liftE X fx Wx (fun ρ P PX => t ρ (fun r ρ1 => onSome (asB (rd ρ1 r)) fun c => f c ρ1 P PX) PX) σ H Q)
    (hF : ∀ c H1, liftE X fx Wx (f c) σ H1 Q → F (.bl c) H1) : liftE X fx Wx t σ H F := by
  obtain ⟨Hs, ρ, P, PX, hr, ht, hq, hx⟩ := h
  refine ⟨Hs, ρ, _, PX, hr, ht, fun g1 v r h1 e1 rp1 p1 => ?_, hx⟩
  obtain ⟨c, q1, q2⟩ := onSome_ex p1
  obtain rfl := (rp1.lk h1 (asB_of q1)).bool
  obtain ⟨Hs1, ρ1, σ1, H1⟩ := g1
  obtain rfl : σ1 = σ := e1.sg
  exact hF c H1 ⟨Hs1, ρ1, P, PX, h1, q2, fun g2 b r2 h2 e2 rp2 p2 => hq g2 b r2 h2 (e1.trans e2) (rp2.back (g' := g2) e1.ext) p2, hx.go e1.ext⟩
theorem pv_and {t u : TeD} {rest : List Expr} (h : Pv X fx Wx a t) (k : Pv X fx Wx (.BoolOp .And (b :: rest) pos) u) : Pv X fx Wx (.BoolOp .And (a :: b :: rest) pos) (tAndE t u) := by
  refine PE.imp (pe_and h k) fun σ H Q h => ?_
  refine boolE (f := fun c ρ P PX => br c (u ρ P PX) (P (.val (.bool false)) ρ)) h fun c H1 z => ⟨c, rfl, ?_⟩
  cases c with
  | true => exact z
  | false => exact doneE (b := false) z
theorem pv_or {t u : TeD} {rest : List Expr} (h : Pv X fx Wx a t) (k : Pv X fx Wx (.BoolOp .Or (b :: rest) pos) u) : Pv X fx Wx (.BoolOp .Or (a :: b :: rest) pos) (tOrE t u) := by
  refine PE.imp (pe_or h k) fun σ H Q h => ?_
  refine boolE (f := fun c ρ P PX => br c (P (.val (.bool true)) ρ) (u ρ P PX)) h fun c H1 z => ⟨c, rfl, ?_⟩
  cases c with
  | true => exact doneE (b := true) z
  | false => exact z
theorem pv_not {t : TeD} (h : Pv X fx Wx a t) : Pv X fx Wx (.UnaryOp .Not a pos) (tNotE t) := by
  refine PE.imp (pe_not h) fun σ H Q h => ?_
  exact boolE (f := fun c ρ P PX => P (.val (.bool (!c))) ρ) h fun c H1 z => ⟨c, rfl, doneE (b := !c) z⟩
def tIte (t : TtD) (u w : TeD) : TeD := fun ρ P PX => t ρ (fun c ρ1 => br c (u ρ1 P PX) (w ρ1 P PX)) PX
theorem pv_ite {t : TtD} {u w : TeD} (h : PvT X fx Wx c t) (ha : Pv X fx Wx a u) (hb : Pv X fx Wx b w) : Pv X fx Wx (.IfExp c a b pos) (tIte t u w) := by
  refine PE.imp (pe_ifExp h ha hb) fun σ H Q h => ?_
  obtain ⟨Hs, ρ, P, PX, hr, ht, hq, hx⟩ := h
  refine ⟨Hs, ρ, _, PX, hr, ht, fun g1 c h1 e1 p1 => ?_, hx⟩
  obtain ⟨Hs1, ρ1, σ1, H1⟩ := g1
  obtain rfl : σ1 = σ := e1.sg
  have mk : ∀ {y : TeD}, y ρ1 P PX → liftE X fx Wx y σ1 H1 Q := fun {y} z => ⟨Hs1, ρ1, P, PX, h1, z, fun g2 b r2 h2 e2 rp2 p2 => hq g2 b r2 h2 (e1.trans e2) (rp2.back (g' := g2) e1.ext) p2, hx.go e1.ext⟩
  cases c with
  | true => exact mk p1
  | false => exact mk p1

/-! ### one-place operations -/
abbrev G1 := D → (R → Prop) → Prop
def Sem1 (K : PySem.W.Frag) (r : V → Hp → VK → Prop) (op : G1) : Prop := ∀ (Hs H : Hp) (x : V) (dx : D) (P : R → Prop) (Q : VK), Same Hs H → Lk K Hs H x dx → op dx P → (∀ v H' rr, P rr → Res K Hs H v H' rr → Q v H') → r x H Q
def tOp1 (op : G1) (ta : TeD) : TeD := fun ρ P PX => ta ρ (fun ra ρ1 => onSome (rd ρ1 ra) fun dx => op dx (fun rr => P rr ρ1)) PX
theorem op1_imp {r : V → Hp → VK → Prop} {op : G1} {ta : TeD} (hs : Sem1 X.K r op) (σ : L2.St) (H : Hp) (Q : VK) (h : liftE X fx Wx (tOp1 op ta) σ H Q) : liftE X fx Wx ta σ H (fun x H1 => r x H1 Q) := by
  obtain ⟨Hs, ρ, P, PX, hr, ht, hq, hx⟩ := h
  refine ⟨Hs, ρ, _, PX, hr, ht, fun g1 x ra h1 e1 rp1 p1 => ?_, hx⟩
  obtain ⟨dx, q1, q3⟩ := onSome_ex p1
  refine hs g1.Hs g1.H x dx _ Q h1.same (rp1.lk h1 q1) q3 fun v H' rr z res => ?_
  obtain ⟨g', a, b, c, rfl, d, _⟩ := res.go e1 h1
  exact hq g' v rr a b c (by rw [d]; exact z)
theorem pv_un {op : UnaryOp} {r : V → Hp → VK → Prop} {g : G1} {ta : TeD} (ho : UnR X (unaryOp op) r) (hs : Sem1 X.K r g) (ha : Pv X fx Wx a ta) : Pv X fx Wx (.UnaryOp op a pos) (tOp1 g ta) := PE.imp (pe_un ho ha) (op1_imp hs)

/-! ### argument lists, displays -/
def tNilA : TaD := fun ρ P _ => P [] ρ
/-- an argument that is made data -/
def tConsF (t : TeD) (u : TaD) : TaD := fun ρ P PX => t ρ (fun r ρ1 => onSome (fz ρ1 r) fun p => u p.2 (fun rs ρ3 => P (.val p.1 :: rs) ρ3) PX) PX
/-- an argument as it is -/
def tConsV (t : TeD) (u : TaD) : TaD := fun ρ P PX => t ρ (fun r ρ1 => u ρ1 (fun rs ρ3 => P (r :: rs) ρ3) PX) PX
theorem pvA_nil : PvA X fx Wx [] tNilA := by
  refine PA.imp pa_nil fun σ H Q h => ?_
  obtain ⟨Hs, ρ, P, PX, hr, ht, hq, hx⟩ := h
  exact hq ⟨Hs, ρ, σ, H⟩ [] [] hr .refl trivial ht
theorem pvA_consV {t : TeD} {u : TaD} (h : Pv X fx Wx e t) (k : PvA X fx Wx es u) (hs : starEach (e :: es) X.env = (false, eval e X.env) :: starEach es X.env := by rfl) : PvA X fx Wx (e :: es) (tConsV t u) := by
  refine PA.imp (pa_cons h k hs) fun σ H Q h => ?_
  obtain ⟨Hs, ρ, P, PX, hr, ht, hq, hx⟩ := h
  refine ⟨Hs, ρ, _, PX, hr, ht, fun g1 v r h1 e1 rp1 p1 => ?_, hx⟩
  obtain ⟨Hs1, ρ1, σ1, H1⟩ := g1
  obtain rfl : σ1 = σ := e1.sg
  refine ⟨Hs1, ρ1, _, PX, h1, p1, fun g2 vs rs h2 e2 rp2 p2 => hq g2 (v :: vs) (r :: rs) h2 (e1.trans e2) ⟨e2.keep rp1, rp2.back e1.ext⟩ p2, hx.go e1.ext⟩
theorem pvA_consF {t : TeD} {u : TaD} (h : Pv X fx Wx e t) (k : PvA X fx Wx es u) (hs : starEach (e :: es) X.env = (false, eval e X.env) :: starEach es X.env := by rfl) : PvA X fx Wx (e :: es) (tConsF t u) := by
  refine PA.imp (pa_cons h k hs) fun σ H Q h => ?_
  obtain ⟨Hs, ρ, P, PX, hr, ht, hq, hx⟩ := h
  refine ⟨Hs, ρ, _, PX, hr, ht, fun g1 v r h1 e1 rp1 p1 => ?_, hx⟩
  obtain ⟨⟨d, ρ2⟩, q1, q2⟩ := onSome_ex p1
  obtain ⟨Hs2, h2, e2, dp, kp, _⟩ := freeze e1.ext h1 rp1 q1
  obtain ⟨Hs1, ρ1, σ1, H1⟩ := g1
  obtain rfl : σ1 = σ := e1.sg
  have g2 : GoE fx ⟨Hs, ρ, σ1, H⟩ ⟨Hs2, ρ2, σ1, H1⟩ := ⟨e2, rfl, fun i w hi => let ⟨w', z⟩ := e1.kp i w hi; kp i w' z⟩
  refine ⟨Hs2, ρ2, _, PX, h2, q2, fun g3 vs rs h3 e3 rp3 p3 => hq g3 (v :: vs) (.val d :: rs) h3 (g2.trans e3) ⟨dp_mono e3.ext.same _ _ dp, rp3.back g2.ext⟩ p3, hx.go e2⟩
/-- all made data -/
def allV : List R → Option (List D)
  | [] => some []
  | .val d :: rs => (allV rs).map (d :: ·)
  | _ :: _ => none
theorem RepAll.dpa {K : PySem.W.Frag} {g : Gst} {H0 : Bg} : ∀ {vs : List V} {rs : List R} {ds : List D}, RepAll K g H0 vs rs → allV rs = some ds → DpAll K g.Hs vs ds
  | [], [], _, _, e => by cases e; exact .nil
  | v :: vs, .val d :: rs, ds, h, e => by
    simp only [allV, Option.map_eq_some_iff] at e
    obtain ⟨ds', e1, rfl⟩ := e
    exact .cons h.1 (RepAll.dpa h.2 e1)
  | v :: vs, .own _ :: rs, ds, h, e => by cases e
  | v :: vs, .var _ :: rs, ds, h, e => by cases e
  | [], _ :: _, _, h, _ => h.elim
  | _ :: _, [], _, h, _ => h.elim
def tTupD (t : TaD) : TeD := fun ρ P PX => t ρ (fun rs ρ1 => onSome (allV rs) fun ds => chk (decide (ds.length ≤ 1000000)) (P (.val (.tuple ds)) ρ1)) PX
def tLstD (t : TaD) : TeD := fun ρ P PX => t ρ (fun rs ρ1 => onSome (allV rs) fun ds => chk (decide (ds.length ≤ 1000000)) (P (.own ds) ρ1)) PX
theorem mill {n : Nat} (h : n ≤ 1000000) : n ≤ sizeLine := Nat.le_trans h (by decide)
theorem pv_tup {t : TaD} {x1} (h : PvA X fx Wx es t) : Pv X fx Wx (.Tuple es x1 pos) (tTupD t) := by
  refine PE.imp (pe_tup h) fun σ H Q h => ?_
  obtain ⟨Hs, ρ, P, PX, hr, ht, hq, hx⟩ := h
  refine ⟨Hs, ρ, _, PX, hr, ht, fun g1 vs rs h1 e1 rp1 p1 => ?_, hx⟩
  obtain ⟨ds, q1, p1⟩ := onSome_ex p1
  obtain ⟨q2, q3⟩ := chk_and p1
  have q2 := of_decide_eq_true q2
  have dp := rp1.dpa q1
  refine ⟨by rw [dpa_len dp]; exact mill q2, fun p np => ?_⟩
  have n2 : g1.Hs p = none := by
    cases q : g1.Hs p with
    | none => rfl
    | some o =>
      rw [h1.same p o q] at np
      cases np
  have sm : Same g1.Hs (upd g1.Hs p (.tup vs)) := same_upd n2
  have res : Res X.K g1.Hs g1.H (.ref p) (upd g1.H p (.tup vs)) (.val (.tuple ds)) := ⟨upd g1.Hs p (.tup vs), sm, (fun a o x n => by
      by_cases ha : a = p
      · rw [ha] at x ⊢; rw [upd_same] at x; exact ⟨np, by rw [← Option.some.inj x]; first | exact Nfz.tup | exact Nfz.lst⟩
      · rw [upd_ne ha, n] at x; cases x), (fun a o x => by
      by_cases ha : a = p
      · subst ha; rw [upd_same] at x ⊢; exact x
      · rw [upd_ne ha] at x ⊢; exact h1.same a o x), same_upd np, .tup (.inl (.inl upd_same)) (dpa_mono sm _ _ dp)⟩
  obtain ⟨g', a, b, c, d, e, _⟩ := res.go e1 h1
  rw [← d]
  exact hq g' _ _ a b c (by rw [e]; exact q3)
theorem pv_lst {t : TaD} (h : PvA X fx Wx es t) : Pv X fx Wx (.List es pos) (tLstD t) := by
  refine PE.imp (pe_lst h) fun σ H Q h => ?_
  obtain ⟨Hs, ρ, P, PX, hr, ht, hq, hx⟩ := h
  refine ⟨Hs, ρ, _, PX, hr, ht, fun g1 vs rs h1 e1 rp1 p1 => ?_, hx⟩
  obtain ⟨ds, q1, p1⟩ := onSome_ex p1
  obtain ⟨q2, q3⟩ := chk_and p1
  have q2 := of_decide_eq_true q2
  have dp := rp1.dpa q1
  refine ⟨by rw [dpa_len dp]; exact mill q2, fun p np => ?_⟩
  have res : Res X.K g1.Hs g1.H (.ref p) (upd g1.H p (.lst vs)) (.own ds) := ⟨p, vs, rfl, np, rfl, dp⟩
  obtain ⟨g', a, b, c, d, e, _⟩ := res.go e1 h1
  rw [← d]
  exact hq g' _ _ a b c (by rw [e]; exact q3)

/-! ### built-ins -/
abbrev GB := List D → (R → Prop) → Prop
def SemB (K : PySem.W.Frag) (r : List V → Hp → VK → Prop) (op : GB) : Prop := ∀ (Hs H : Hp) (xs : List V) (ds : List D) (P : R → Prop) (Q : VK), Same Hs H → LkAll K Hs H xs ds → op ds P → (∀ v H' rr, P rr → Res K Hs H v H' rr → Q v H') → r xs H Q
where LkAll (K : PySem.W.Frag) (Hs H : Hp) : List V → List D → Prop
  | [], [] => True
  | v :: vs, d :: ds => Lk K Hs H v d ∧ LkAll K Hs H vs ds
  | _, _ => False
def rdAll (ρ : Rho) : List R → Option (List D)
  | [] => some []
  | r :: rs => (rd ρ r).bind fun d => (rdAll ρ rs).map (d :: ·)
def tBlt (op : GB) (t : TaD) : TeD := fun ρ P PX => t ρ (fun rs ρ1 => onSome (rdAll ρ1 rs) fun ds => op ds (fun rr => P rr ρ1)) PX
theorem RepAll.lk {K : PySem.W.Frag} {g : Gst} {H0 : Bg} (h : Rel K g) : ∀ {vs : List V} {rs : List R} {ds : List D}, RepAll K g H0 vs rs → rdAll g.ρ rs = some ds → SemB.LkAll K g.Hs g.H vs ds
  | [], [], _, _, e => by cases e; trivial
  | v :: vs, r :: rs, ds, q, e => by
    simp only [rdAll, Option.bind_eq_some_iff, Option.map_eq_some_iff] at e
    obtain ⟨d, e1, ds', e2, rfl⟩ := e
    exact ⟨q.1.lk h e1, RepAll.lk h q.2 e2⟩
  | [], _ :: _, _, h, _ => h.elim
  | _ :: _, [], _, h, _ => h.elim
theorem blt_imp {r : List V → Hp → VK → Prop} {op : GB} {t : TaD} (hs : SemB X.K r op) (σ : L2.St) (H : Hp) (Q : VK) (h : liftE X fx Wx (tBlt op t) σ H Q) : tCB r (liftA X fx Wx t) σ H Q := by
  obtain ⟨Hs, ρ, P, PX, hr, ht, hq, hx⟩ := h
  refine ⟨Hs, ρ, _, PX, hr, ht, fun g1 xs rs h1 e1 rp1 p1 => ?_, hx⟩
  obtain ⟨ds, q1, q3⟩ := onSome_ex p1
  refine hs g1.Hs g1.H xs ds _ Q h1.same (rp1.lk h1 q1) q3 fun v H' rr z res => ?_
  obtain ⟨g', a, b, c, rfl, d, _⟩ := res.go e1 h1
  exact hq g' v rr a b c (by rw [d]; exact z)
theorem pv_blt {x : Str} {id : String} {r : List V → Hp → VK → Prop} {g : GB} {t : TaD} {p : Pos} (hc : CallR X (.builtin id) r) (hs : SemB X.K r g) (hg : Gl X x) (hm : X.mg x = none) (hv : bootBuiltins x = some (.builtin id)) (ha : PvA X fx Wx (e :: es) t) (hn : x ≠ "__name__" := by decide) (hdb : (x == ("__debug__" : Str)) = false := by decide)
    (he : starEach (e :: es) X.env = (false, eval e X.env) :: starEach es X.env := by rfl) (hpl : (backTo pos (starEach es X.env)).any (·.1) = false := by rfl) : Pv X fx Wx (.Call (.Name x p) (e :: es) [] pos) (tBlt g t) := PE.imp (pe_callB hc hg hm hv ha hn hdb he hpl) (blt_imp hs)
theorem pv_ty {x : Str} {T : String} {r : List V → Hp → VK → Prop} {g : GB} {t : TaD} {p : Pos} (hc : CallR X (.type T) r) (hs : SemB X.K r g) (hg : Gl X x) (hm : X.mg x = none) (hv : bootBuiltins x = some (.type T)) (ha : PvA X fx Wx (e :: es) t) (hn : x ≠ "__name__" := by decide) (hdb : (x == ("__debug__" : Str)) = false := by decide)
    (he : starEach (e :: es) X.env = (false, eval e X.env) :: starEach es X.env := by rfl) (hpl : (backTo pos (starEach es X.env)).any (·.1) = false := by rfl) : Pv X fx Wx (.Call (.Name x p) (e :: es) [] pos) (tBlt g t) := PE.imp (pe_callTy hc hg hm hv ha hn hdb he hpl) (blt_imp hs)
end
end RR

/-! LayC: statements, targets, loops. -/
namespace RR
open PySem PySem.Spec L2

structure EndsD where
  nx : Rho → Prop
  rt : PostE
  bk : Rho → Prop := fun _ => False
  ct : Rho → Prop := fun _ => False
  ex : PostX := fun _ _ => False
abbrev TsD := EndsD → Rho → Prop
/-- what is wanted behind a statement that began at g -/
structure SOk (X : Cx) (fx : List Nat) (Wx : WX) (D : Ends) (g : Gst) (DD : EndsD) : Prop where
  nx : ∀ g', Rel X.K g' → Ext fx g g' → DD.nx g'.ρ → D.nx g'.σ g'.H
  rt : ∀ g' v r, Rel X.K g' → Ext fx g g' → Rep X.K g' (bg g) v r → DD.rt r g'.ρ → D.rt v g'.H
  bk : ∀ g', Rel X.K g' → Ext fx g g' → DD.bk g'.ρ → D.bk g'.σ g'.H
  ct : ∀ g', Rel X.K g' → Ext fx g g' → DD.ct g'.ρ → D.ct g'.σ g'.H
  ex : XOk X fx Wx g DD.ex
def liftS (X : Cx) (fx : List Nat) (Wx : WX) (t : TsD) : TS := fun D σ H => ∃ (Hs : Hp) (ρ : Rho) (DD : EndsD), Rel X.K ⟨Hs, ρ, σ, H⟩ ∧ t DD ρ ∧ SOk X fx Wx D ⟨Hs, ρ, σ, H⟩ DD
abbrev PvS (X : Cx) (fx : List Nat) (Wx : WX) (st : Stmt) (t : TsD) : Prop := PS X st (liftS X fx Wx t)
abbrev PvB (X : Cx) (fx : List Nat) (Wx : WX) (sts : List Stmt) (t : TsD) : Prop := PSs X sts (liftS X fx Wx t)

section
variable {X : Cx} {fx : List Nat} {Wx : WX} {e a b c : Expr} {es : List Expr} {pos : Pos} {st : Stmt} {sts : List Stmt}
theorem PS.imp {t t' : TS} (h : PS X st t) (i : ∀ D σ H, t' D σ H → t D σ H) : PS X st t' := ⟨fun pins s σ H D I q => h.run pins s σ H D I (i D σ H q)⟩
theorem PSs.imp {t t' : TS} (h : PSs X sts t) (i : ∀ D σ H, t' D σ H → t D σ H) : PSs X sts t' := ⟨fun pins s σ H D I q => h.run pins s σ H D I (i D σ H q)⟩
theorem Rep.start {K : PySem.W.Frag} {fx : List Nat} {g0 g g' : Gst} {v : V} {r : R} (e : Ext fx g0 g) (h : Rep K g' (bg g) v r) : Rep K g' (bg g0) v r := h.back e
theorem SOk.go {D : Ends} {g g' : Gst} {DD : EndsD} (h : SOk X fx Wx D g DD) (e : Ext fx g g') : SOk X fx Wx D g' DD :=
  ⟨fun g2 r e2 => h.nx g2 r (e.trans e2), fun g2 v r q e2 rp => h.rt g2 v r q (e.trans e2) (rp.back e), fun g2 r e2 => h.bk g2 r (e.trans e2), fun g2 r e2 => h.ct g2 r (e.trans e2), h.ex.go e⟩

/-! ### blocks -/
def tNextD : TsD := fun DD ρ => DD.nx ρ
def tSeqD (t u : TsD) : TsD := fun DD ρ => t { DD with nx := u DD } ρ
theorem pvB_nil : PvB X fx Wx [] tNextD := PSs.imp pss_nil fun D σ H ⟨Hs, ρ, DD, hr, ht, hq⟩ => hq.nx ⟨Hs, ρ, σ, H⟩ hr .refl ht
theorem pvB_cons {t u : TsD} (h : PvS X fx Wx st t) (k : PvB X fx Wx sts u) : PvB X fx Wx (st :: sts) (tSeqD t u) := by
  refine PSs.imp (pss_cons h k) fun D σ H h => ?_
  obtain ⟨Hs, ρ, DD, hr, ht, hq⟩ := h
  exact ⟨Hs, ρ, _, hr, ht, fun g' r e z => ⟨g'.Hs, g'.ρ, DD, r, z, hq.go e⟩, hq.rt, hq.bk, hq.ct, hq.ex⟩
theorem pvB_one {t : TsD} (h : PvS X fx Wx st t) : PvB X fx Wx [st] t := pss_one h
theorem pv_pass : PvS X fx Wx (.Pass pos) tNextD := PS.imp ps_pass fun D σ H ⟨Hs, ρ, DD, hr, ht, hq⟩ => hq.nx ⟨Hs, ρ, σ, H⟩ hr .refl ht
def tBreakD : TsD := fun DD ρ => DD.bk ρ
def tContD : TsD := fun DD ρ => DD.ct ρ
theorem pv_break : PvS X fx Wx (.Break pos) tBreakD := PS.imp ps_break fun D σ H ⟨Hs, ρ, DD, hr, ht, hq⟩ => hq.bk ⟨Hs, ρ, σ, H⟩ hr .refl ht
theorem pv_continue : PvS X fx Wx (.Continue pos) tContD := PS.imp ps_continue fun D σ H ⟨Hs, ρ, DD, hr, ht, hq⟩ => hq.ct ⟨Hs, ρ, σ, H⟩ hr .refl ht
def tNeverD : TsD := fun _ _ => False
theorem pv_never : PvS X fx Wx st tNeverD := PS.imp ps_never fun D σ H ⟨_, _, _, _, ht, _⟩ => ht
def tDropD (te : TeD) : TsD := fun DD ρ => te ρ (fun _ ρ1 => DD.nx ρ1) DD.ex
theorem pv_expr {te : TeD} (h : Pv X fx Wx e te) (hs : swapsWith e none pos.line X.env = pure false := by rfl) : PvS X fx Wx (.Expr e pos) (tDropD te) := by
  refine PS.imp (ps_expr h hs) fun D σ H h => ?_
  obtain ⟨Hs, ρ, DD, hr, ht, hq⟩ := h
  refine ⟨Hs, ρ, _, _, hr, ht, fun g' v r h1 e1 _ p1 => ?_, hq.ex⟩
  have := hq.nx g' h1 e1.ext p1
  rw [e1.sg] at this
  exact this
def tRetD (te : TeD) : TsD := fun DD ρ => te ρ DD.rt DD.ex
theorem pv_ret {te : TeD} (h : Pv X fx Wx e te) : PvS X fx Wx (.Return (some e) pos) (tRetD te) := by
  refine PS.imp (ps_ret h) fun D σ H h => ?_
  obtain ⟨Hs, ρ, DD, hr, ht, hq⟩ := h
  exact ⟨Hs, ρ, _, _, hr, ht, fun g' v r h1 e1 rp p1 => hq.rt g' v r h1 e1.ext rp p1, hq.ex⟩
def tRetND : TsD := fun DD ρ => DD.rt (.val .none) ρ
theorem pv_retN : PvS X fx Wx (.Return none pos) tRetND := PS.imp ps_retN fun D σ H ⟨Hs, ρ, DD, hr, ht, hq⟩ => hq.rt ⟨Hs, ρ, σ, H⟩ .non (.val .none) hr .refl Dp.non ht
def tIfD (c : TtD) (t u : TsD) : TsD := fun DD ρ => c ρ (fun b ρ1 => br b (t DD ρ1) (u DD ρ1)) DD.ex
theorem pv_if {tc : TtD} {t u : TsD} {A B : List Stmt} (hc : PvT X fx Wx c tc) (ha : PvB X fx Wx A t) (hb : PvB X fx Wx B u) : PvS X fx Wx (.If c A B pos) (tIfD tc t u) := by
  refine PS.imp (ps_if hc ha hb) fun D σ H h => ?_
  obtain ⟨Hs, ρ, DD, hr, ht, hq⟩ := h
  refine ⟨Hs, ρ, _, _, hr, ht, fun g' b h1 e1 p1 => ?_, hq.ex⟩
  obtain ⟨Hs1, ρ1, σ1, H1⟩ := g'
  obtain rfl : σ1 = σ := e1.sg
  cases b with
  | true => exact ⟨Hs1, ρ1, DD, h1, p1, hq.go e1.ext⟩
  | false => exact ⟨Hs1, ρ1, DD, h1, p1, hq.go e1.ext⟩

/-! ### slots set -/
theorem owns_set {ρ : Rho} {σ : L2.St} {i j : Nat} {w : Option W} {v : Option V} {a : Addr} {xs : List D} (h : Owns (ρ.set i w) (σ.set i v) j a xs) : (j = i ∧ Owns (ρ.set i w) (σ.set i v) i a xs) ∨ (j ≠ i ∧ Owns ρ σ j a xs) := by
  by_cases e : j = i
  · subst e
    exact .inl ⟨rfl, h⟩
  · right
    refine ⟨e, ?_⟩
    cases h with
    | top h1 h2 =>
      rw [List.getElem?_set_ne (Ne.symm e)] at h1 h2
      exact .top h1 h2
    | sub h1 h2 =>
      rw [List.getElem?_set_ne (Ne.symm e)] at h1
      exact .sub h1 h2
    | reg h1 h2 =>
      rw [List.getElem?_set_ne (Ne.symm e)] at h1
      exact .reg h1 h2
theorem owns_val {ρ : Rho} {σ : L2.St} {i : Nat} {w : Option W} {v : Option V} {a : Addr} {xs : List D} (hw : (∀ ys, w ≠ some (.own ys)) ∧ (∀ p its, w ≠ some (.nst p its)) ∧ ∀ r, w ≠ some (.reg r)) (h : Owns (ρ.set i w) (σ.set i v) i a xs) : False := by
  cases h with
  | top h1 h2 =>
    rcases get_set h1 with ⟨_, z⟩ | ⟨ne, _⟩
    · exact hw.1 _ z.symm
    · exact ne rfl
  | sub h1 h2 =>
    rcases get_set h1 with ⟨_, z⟩ | ⟨ne, _⟩
    · exact hw.2.1 _ _ z.symm
    · exact ne rfl
  | reg h1 h2 =>
    rcases get_set h1 with ⟨_, z⟩ | ⟨ne, _⟩
    · exact hw.2.2 _ z.symm
    · exact ne rfl
theorem not_own_val {d : D} : (∀ ys, some (W.val d) ≠ some (.own ys)) ∧ (∀ p its, some (W.val d) ≠ some (.nst p its)) ∧ ∀ r, some (W.val d) ≠ some (.reg r) := ⟨fun _ z => (by cases z), fun _ _ z => (by cases z), fun _ z => (by cases z)⟩
theorem own_set_val {ρ : Rho} {σ : L2.St} {i : Nat} {d : D} {v : V} {a : Addr} (h : OwnAt (ρ.set i (some (.val d))) (σ.set i (some v)) a) : OwnAt ρ σ a := by
  obtain ⟨j, xs, h⟩ := h
  rcases owns_set h with ⟨_, z⟩ | ⟨_, z⟩
  · exact (owns_val not_own_val z).elim
  · exact ⟨j, xs, z⟩
/-- what a slot's content owns -/
def NewOwn (w : W) (v : V) (a : Addr) : Prop := match w with
  | .own _ => v = .ref a
  | .nst _ its => a ∈ ads its
  | .reg r => r.ads a
  | _ => False
theorem newOwn_of {ρ : Rho} {σ : L2.St} {i : Nat} {w : W} {v : V} {a : Addr} {xs : List D} (h : Owns (ρ.set i (some w)) (σ.set i (some v)) i a xs) : NewOwn w v a := by
  cases h with
  | top h1 h2 =>
    rcases get_set h1 with ⟨_, z⟩ | ⟨ne, _⟩
    · cases z
      rcases get_set h2 with ⟨_, z⟩ | ⟨ne, _⟩
      · cases z
        rfl
      · exact absurd rfl ne
    · exact absurd rfl ne
  | sub h1 h2 =>
    rcases get_set h1 with ⟨_, z⟩ | ⟨ne, _⟩
    · cases z
      exact ads_mem.mpr ⟨_, h2⟩
    · exact absurd rfl ne
  | reg h1 h2 =>
    rcases get_set h1 with ⟨_, z⟩ | ⟨ne, _⟩
    · cases z
      exact h2
    · exact absurd rfl ne
theorem rel_set {g : Gst} {i : Nat} {w : W} {v : V} (h : Rel X.K g) (hv : ∀ d, w = .val d → Dp X.K g.Hs v d) (ho : ∀ xs, w = .own xs → ∃ p vs, v = .ref p ∧ g.H p = some (.lst vs) ∧ DpAll X.K g.Hs vs xs ∧ g.Hs p = none) (hn : ∀ p its, w = .nst p its → v = .ref p ∧ NstAt X.K g.Hs g.H p its)
    (hx : ∀ a dd fs, w ≠ .exc a dd fs) (hs : ∀ a, NewOwn w v a → ¬ OwnAt g.ρ g.σ a) (hr : ∀ r, w = .reg r → RegAt X.K g.Hs g.H v r := by exact fun _ z => nomatch z) : Rel X.K ⟨g.Hs, g.ρ.set i (some w), g.σ.set i (some v), g.H⟩ := by
  have sl : ∀ {w' : Option W}, (g.ρ.set i (some w))[i]? = some w' → (g.σ.set i (some v))[i]? = some (some v) := fun hd => by
    refine List.getElem?_set_self ?_
    rw [h.len]
    have := (List.getElem?_eq_some_iff.mp hd).1
    simpa using this
  refine ⟨by simpa using h.len, h.same, fun j d' hd => ?_, fun j xs hd => ?_, fun j k p xs ys a b => ?_, fun j p its hd => ?_, fun j a dd fs hd => ?_, fun j r hd => ?_⟩
  · rcases get_set hd with ⟨rfl, z⟩ | ⟨ne, z⟩
    · cases z
      exact ⟨v, sl hd, hv _ rfl⟩
    · obtain ⟨v', a, b⟩ := h.val j d' z
      exact ⟨v', (List.getElem?_set_ne ne).trans a, b⟩
  · rcases get_set hd with ⟨rfl, z⟩ | ⟨ne, z⟩
    · cases z
      obtain ⟨p, vs, rfl, a, b, c⟩ := ho _ rfl
      exact ⟨p, vs, sl hd, a, b, c⟩
    · obtain ⟨p, vs, a, b⟩ := h.own j xs z
      exact ⟨p, vs, (List.getElem?_set_ne ne).trans a, b⟩
  · rcases owns_set a with ⟨rfl, a1⟩ | ⟨na, a1⟩
    · rcases owns_set b with ⟨rfl, b1⟩ | ⟨nb, b1⟩
      · rfl
      · exact absurd ⟨k, ys, b1⟩ (hs p (newOwn_of a1))
    · rcases owns_set b with ⟨rfl, b1⟩ | ⟨nb, b1⟩
      · exact absurd ⟨j, xs, a1⟩ (hs p (newOwn_of b1))
      · exact h.sepO j k p xs ys a1 b1
  · rcases get_set hd with ⟨rfl, z⟩ | ⟨ne, z⟩
    · cases z
      obtain ⟨rfl, a⟩ := hn _ _ rfl
      exact ⟨sl hd, a⟩
    · obtain ⟨a, b⟩ := h.nst j p its z
      exact ⟨(List.getElem?_set_ne ne).trans a, b⟩
  · rcases get_set hd with ⟨rfl, z⟩ | ⟨ne, z⟩
    · cases z
      exact absurd rfl (hx _ _ _)
    · obtain ⟨q1, q2⟩ := h.exc j a dd fs z
      exact ⟨(List.getElem?_set_ne ne).trans q1, q2⟩
  · rcases get_set hd with ⟨rfl, z⟩ | ⟨ne, z⟩
    · cases z
      exact ⟨v, sl hd, hr _ rfl⟩
    · obtain ⟨v', q1, q2⟩ := h.reg j r z
      exact ⟨v', (List.getElem?_set_ne ne).trans q1, q2⟩
theorem set_val {g : Gst} {i : Nat} {d : D} {v : V} (h : Rel X.K g) (dp : Dp X.K g.Hs v d) : Rel X.K ⟨g.Hs, g.ρ.set i (some (.val d)), g.σ.set i (some v), g.H⟩ :=
  rel_set h (fun _ z => by cases z; exact dp) (fun _ z => by cases z) (fun _ _ z => by cases z) (fun _ _ _ z => by cases z) fun _ z => z.elim
theorem ext_set_val {g0 g : Gst} {i : Nat} {d : D} {v : V} (e : Ext fx g0 g) (hi : i ∉ fx) : Ext fx g0 ⟨g.Hs, g.ρ.set i (some (.val d)), g.σ.set i (some v), g.H⟩ :=
  ⟨e.same, e.new, e.frame, e.dom, fun a h => e.own a (own_set_val h), fun j hj => (List.getElem?_set_ne (fun z => hi (by rw [z]; exact hj))).trans (e.fix j hj), (List.length_set ..).trans e.len⟩
theorem set_own {g : Gst} {i : Nat} {xs : List D} {vs : List V} {p : Addr} (h : Rel X.K g) (h1 : g.H p = some (.lst vs)) (h2 : DpAll X.K g.Hs vs xs) (h3 : g.Hs p = none) (h4 : ¬ OwnAt g.ρ g.σ p) : Rel X.K ⟨g.Hs, g.ρ.set i (some (.own xs)), g.σ.set i (some (.ref p)), g.H⟩ :=
  rel_set h (fun _ z => by cases z) (fun _ z => by cases z; exact ⟨p, vs, rfl, h1, h2, h3⟩) (fun _ _ z => by cases z) (fun _ _ _ z => by cases z) fun a z => by
    have z : V.ref p = .ref a := z
    cases z
    exact h4
theorem set_nst {g : Gst} {i : Nat} {its : List (D ⊕ (Addr × List D))} {p : Addr} (h : Rel X.K g) (h1 : NstAt X.K g.Hs g.H p its) (h4 : ∀ q ∈ ads its, ¬ OwnAt g.ρ g.σ q) : Rel X.K ⟨g.Hs, g.ρ.set i (some (.nst p its)), g.σ.set i (some (.ref p)), g.H⟩ :=
  rel_set h (fun _ z => by cases z) (fun _ z => by cases z) (fun _ _ z => by cases z; exact ⟨rfl, h1⟩) (fun _ _ _ z => by cases z) h4
theorem ext_set {g0 g : Gst} {i : Nat} {w : W} {v : V} (e : Ext fx g0 g) (hi : i ∉ fx) (h0 : ∀ a, NewOwn w v a → g0.H a = none ∨ OwnAt g0.ρ g0.σ a) : Ext fx g0 ⟨g.Hs, g.ρ.set i (some w), g.σ.set i (some v), g.H⟩ :=
  ⟨e.same, e.new, e.frame, e.dom, fun a h => by
    obtain ⟨j, xs, h⟩ := h
    rcases owns_set h with ⟨rfl, z⟩ | ⟨_, z⟩
    · exact (h0 a (newOwn_of z)).symm
    · exact e.own a ⟨j, xs, z⟩, fun j hj => (List.getElem?_set_ne (fun z => hi (by rw [z]; exact hj))).trans (e.fix j hj), (List.length_set ..).trans e.len⟩
theorem ext_set_own {g0 g : Gst} {i : Nat} {xs : List D} {p : Addr} (e : Ext fx g0 g) (hi : i ∉ fx) (h0 : g0.H p = none ∨ OwnAt g0.ρ g0.σ p) : Ext fx g0 ⟨g.Hs, g.ρ.set i (some (.own xs)), g.σ.set i (some (.ref p)), g.H⟩ :=
  ext_set e hi fun a z => by
    have z : V.ref p = .ref a := z
    cases z
    exact h0
theorem ext_set_nst {g0 g : Gst} {i : Nat} {its : List (D ⊕ (Addr × List D))} {p : Addr} (e : Ext fx g0 g) (hi : i ∉ fx) (h0 : ∀ q ∈ ads its, g0.H q = none ∨ OwnAt g0.ρ g0.σ q) : Ext fx g0 ⟨g.Hs, g.ρ.set i (some (.nst p its)), g.σ.set i (some (.ref p)), g.H⟩ := ext_set e hi h0

/-- what a slot gets -/
def put (ρ : Rho) : R → Option (W × Rho)
  | .own xs => some (.own xs, ρ)
  | .nst p its => some (.nst p its, ρ)
  | r => (fz ρ r).map fun p => (.val p.1, p.2)
theorem put_go {g0 g : Gst} {H0 : Hp} {i : Nat} {v : V} {r : R} {w : W} {ρ' : Rho} (hi : i ∉ fx) (h : Rel X.K g) (e : Ext fx g0 g) (rp : Rep X.K g (bg g0) v r) (z : put g.ρ r = some (w, ρ')) :
    ∃ g', Rel X.K g' ∧ Ext fx g0 g' ∧ g'.ρ = ρ'.set i (some w) ∧ g'.σ = g.σ.set i (some v) ∧ g'.H = g.H := by
  have val : ∀ d ρ1, fz g.ρ r = some (d, ρ1) → ∃ g', Rel X.K g' ∧ Ext fx g0 g' ∧ g'.ρ = ρ1.set i (some (.val d)) ∧ g'.σ = g.σ.set i (some v) ∧ g'.H = g.H := fun d ρ1 q => by
    obtain ⟨Hs', h1, e1, dp, _, _⟩ := freeze e h rp q
    exact ⟨_, set_val h1 dp, ext_set_val e1 hi, rfl, rfl, rfl⟩
  cases r with
  | own xs =>
    cases z
    obtain ⟨p, vs, rfl, h1, h2, h3, h4, h5⟩ := rp
    exact ⟨_, set_own (i := i) h h1 h2 h3 h4, ext_set_own e hi h5, rfl, rfl, rfl⟩
  | nst p its =>
    cases z
    obtain ⟨rfl, h1, h2, h3⟩ := rp
    exact ⟨_, set_nst (i := i) h h1 fun q hq => h2 q (List.mem_cons_of_mem _ hq), ext_set_nst e hi h3, rfl, rfl, rfl⟩
  | val d =>
    simp only [put, Option.map_eq_some_iff] at z
    obtain ⟨⟨d1, ρ1⟩, q, z⟩ := z
    cases z
    exact val d1 ρ1 q
  | var j =>
    simp only [put, Option.map_eq_some_iff] at z
    obtain ⟨⟨d1, ρ1⟩, q, z⟩ := z
    cases z
    exact val d1 ρ1 q
def tSetD (i : Nat) (te : TeD) : TsD := fun DD ρ => te ρ (fun r ρ1 => onSome (put ρ1 r) fun p => DD.nx (p.2.set i (some p.1))) DD.ex
theorem set_imp {i : Nat} {te : TeD} (hi : i ∉ fx) (D : Ends) (σ : L2.St) (H : Hp) (h : liftS X fx Wx (tSetD i te) D σ H) : liftE X fx Wx te σ H (fun x H1 => gName i x σ H1 D.nx) := by
  obtain ⟨Hs, ρ, DD, hr, ht, hq⟩ := h
  refine ⟨Hs, ρ, _, _, hr, ht, fun g' v r h1 e1 rp p1 => ?_, hq.ex⟩
  obtain ⟨⟨w, ρ2⟩, q1, q2⟩ := onSome_ex p1
  obtain ⟨g2, a, b, c, d, e⟩ := put_go (H0 := H) (g0 := ⟨Hs, ρ, σ, H⟩) hi h1 e1.ext rp q1
  have := hq.nx g2 a b (by rw [c]; exact q2)
  rw [d, e, e1.sg] at this
  exact this
theorem pv_set (i : Nat) {x : Str} {te : TeD} {pos' : Pos} (hN : X.N.Nodup) (hi : X.N[i]? = some x) (hx : Loc X.env.scope x) (he : Pv X fx Wx e te) (hs : swapsWith e (some (.Name x pos')) pos.line X.env = pure false := by rfl) (hf : X.fn x = true ∨ X.env.scope.names.lookup x = some .local := by first | exact .inl rfl | exact .inr rfl | assumption)
    (hfx : i ∉ fx := by decide) : PvS X fx Wx (.Assign [.Name x pos'] e pos) (tSetD i te) :=
  PS.imp (ps_set hN hi hx he hs hf) fun D σ H h => set_imp hfx D σ H h

/-! ### targets -/
def Kp (ρ ρ' : Rho) : Prop := ∀ (i : Nat) (w : W), ρ[i]? = some (some w) → ∃ w', ρ'[i]? = some (some w')
theorem Kp.refl {ρ : Rho} : Kp ρ ρ := fun _ w h => ⟨w, h⟩
theorem Kp.trans {ρ ρ' ρ'' : Rho} (a : Kp ρ ρ') (b : Kp ρ' ρ'') : Kp ρ ρ'' := fun i w h => let ⟨w', h'⟩ := a i w h; b i w' h'
theorem Kp.set {ρ : Rho} {i : Nat} {w : W} : Kp ρ (ρ.set i (some w)) := fun j w' h => by
  by_cases e : i = j
  · subst e; exact ⟨w, get_set_self h⟩
  · exact ⟨w', (List.getElem?_set_ne e).trans h⟩
abbrev TgD := D → Rho → (Rho → Prop) → Prop
abbrev TgsD := List D → Rho → (Rho → Prop) → Prop
def liftG (X : Cx) (fx : List Nat) (g : TgD) : TG := fun v σ H Q => ∃ (Hs : Hp) (ρ : Rho) (P : Rho → Prop) (d : D), Rel X.K ⟨Hs, ρ, σ, H⟩ ∧ Dp X.K Hs v d ∧ g d ρ P ∧ ∀ g', Rel X.K g' → Ext fx ⟨Hs, ρ, σ, H⟩ g' → Kp ρ g'.ρ → P g'.ρ → Q g'.σ g'.H
def liftGs (X : Cx) (fx : List Nat) (g : TgsD) : TGs := fun vs σ H Q => ∃ (Hs : Hp) (ρ : Rho) (P : Rho → Prop) (ds : List D), Rel X.K ⟨Hs, ρ, σ, H⟩ ∧ DpAll X.K Hs vs ds ∧ g ds ρ P ∧ ∀ g', Rel X.K g' → Ext fx ⟨Hs, ρ, σ, H⟩ g' → Kp ρ g'.ρ → P g'.ρ → Q g'.σ g'.H
abbrev PvG (X : Cx) (fx : List Nat) (e : Expr) (g : TgD) : Prop := PG X e (liftG X fx g)
abbrev PvGs (X : Cx) (fx : List Nat) (es : List Expr) (g : TgsD) : Prop := PGs X es (liftGs X fx g)
theorem PG.imp {t t' : TG} (h : PG X e t) (i : ∀ v σ H Q, t' v σ H Q → t v σ H Q) : PG X e t' := ⟨fun pins s σ H v u Q I r q => h.run pins s σ H v u Q I r (i v σ H Q q)⟩
theorem PGs.imp {t t' : TGs} (h : PGs X es t) (i : ∀ v σ H Q, t' v σ H Q → t v σ H Q) : PGs X es t' := ⟨fun pins s σ H v u Q I r q => h.run pins s σ H v u Q I r (i v σ H Q q)⟩
def gNameD (i : Nat) : TgD := fun d ρ P => P (ρ.set i (some (.val d)))
theorem pvG_name (i : Nat) {x : Str} (hN : X.N.Nodup) (hi : X.N[i]? = some x) (hx : Loc X.env.scope x) (hf : X.fn x = true ∨ X.env.scope.names.lookup x = some .local := by first | exact .inl rfl | exact .inr rfl | assumption) (hfx : i ∉ fx := by decide) : PvG X fx (.Name x pos) (gNameD i) := by
  refine PG.imp (pg_name hN hi hx hf) fun v σ H Q h => ?_
  obtain ⟨Hs, ρ, P, d, hr, dp, hg, hq⟩ := h
  exact hq _ (set_val (i := i) hr dp) (ext_set_val .refl hfx) Kp.set hg
def gsNilD : TgsD := fun ds ρ P => match ds with
  | [] => P ρ
  | _ => False
def gsConsD (t : TgD) (u : TgsD) : TgsD := fun ds ρ P => match ds with
  | d :: r => t d ρ (fun ρ1 => u r ρ1 P)
  | [] => False
theorem pvGs_nil : PvGs X fx [] gsNilD := by
  refine PGs.imp pgs_nil fun vs σ H Q h => ?_
  obtain ⟨Hs, ρ, P, ds, hr, dp, hg, hq⟩ := h
  cases dp with
  | nil => exact ⟨rfl, hq ⟨Hs, ρ, σ, H⟩ hr .refl .refl hg⟩
  | cons _ _ => exact hg.elim
theorem pvGs_cons {t : TgD} {u : TgsD} (h1 : PvG X fx e t) (h2 : PvGs X fx es u) (hs : (assignEach (e :: es) X.env).map (·.2) = assign e X.env :: (assignEach es X.env).map (·.2) := by rfl) : PvGs X fx (e :: es) (gsConsD t u) := by
  refine PGs.imp (pgs_cons h1 h2 hs) fun vs σ H Q h => ?_
  obtain ⟨Hs, ρ, P, ds, hr, dp, hg, hq⟩ := h
  cases dp with
  | nil => exact hg.elim
  | cons p q =>
    rename_i v vs d r
    refine ⟨_, _, rfl, Hs, ρ, _, d, hr, p, hg, fun g' r' e' k' z => ?_⟩
    exact ⟨g'.Hs, g'.ρ, P, r, r', dpa_mono e'.same _ _ q, z, fun g2 r2 e2 k2 z2 => hq g2 r2 (e'.trans e2) (k'.trans k2) z2⟩
def gTupD (n : Nat) (t : TgsD) : TgD := fun d ρ P => onSome (asT (some d)) fun ds => chk (ds.length == n) (t ds ρ P)
theorem pvG_tup {k n : Nat} {t : TgsD} (hc : X.calm = true) (h : PvGs X fx es t) (hn : (assignEach es X.env).length = n := by rfl) (hst : (assignEach es X.env).findIdx? (·.1) = none := by rfl) : PvG X fx (.Tuple es k pos) (gTupD n t) := by
  refine PG.imp (pg_tup hc h hn hst) fun v σ H Q h => ?_
  obtain ⟨Hs, ρ, P, d, hr, dp, hh, hq⟩ := h
  obtain ⟨ds, q1, hh⟩ := onSome_ex hh
  obtain ⟨hl, hg⟩ := chk_and hh
  have hl : ds.length = n := by simpa using hl
  have q2 := asT_of q1
  cases q2
  cases dp with
  | tup h1 h2 =>
    exact ⟨_, _, rfl, seqT_mono hr.same h1, (dpa_len h2).trans hl, Hs, ρ, P, ds, hr, h2, hg, hq⟩
def tAsgD (te : TeD) (g : TgD) : TsD := fun DD ρ => te ρ (fun r ρ1 => onSome (fz ρ1 r) fun p => g p.1 p.2 DD.nx) DD.ex
theorem asg_imp {te : TeD} {g : TgD} (D : Ends) (σ : L2.St) (H : Hp) (h : liftS X fx Wx (tAsgD te g) D σ H) : tAsg (liftE X fx Wx te) (liftG X fx g) D σ H := by
  obtain ⟨Hs, ρ, DD, hr, ht, hq⟩ := h
  refine ⟨Hs, ρ, _, _, hr, ht, fun g1 v r h1 e1 rp p1 => ?_, hq.ex⟩
  obtain ⟨⟨d, ρ2⟩, q1, q2⟩ := onSome_ex p1
  obtain ⟨Hs', h2, e2, dp, _, _⟩ := freeze e1.ext h1 rp q1
  obtain ⟨Hs1, ρ1, σ1, H1⟩ := g1
  obtain rfl : σ1 = σ := e1.sg
  exact ⟨Hs', ρ2, _, d, h2, dp, q2, fun g' r' e' _ z => hq.nx g' r' (e2.trans e') z⟩
theorem pv_asg {tg : Expr} {te : TeD} {g : TgD} (he : Pv X fx Wx e te) (hg : PvG X fx tg g) (hs : swapsWithSole [tg] e pos.line X.env = pure false := by rfl) (hw : swappedStores [tg] e X.env = pure none := by rfl)
    (h1 : (assignEach [tg] X.env).map (·.2) = [assign tg X.env] := by rfl) : PvS X fx Wx (.Assign [tg] e pos) (tAsgD te g) := PS.imp (ps_asg he hg hs hw h1) asg_imp
/-- a, b = x, y -/
def tParD (i j : Nat) (ta : TaD) : TsD := fun DD ρ => ta ρ (fun rs ρ1 => match rs with
  | [.val d, .val e] => DD.nx ((ρ1.set i (some (.val d))).set j (some (.val e)))
  | _ => False) DD.ex
theorem pv_par (i j : Nat) {x y : Str} {ta : TaD} {px py pt : Pos} {kt k2 pt2} (hc : X.calm = true) (hN : X.N.Nodup) (hi : X.N[i]? = some x) (hj : X.N[j]? = some y) (hij : i ≠ j)
    (hx : X.env.scope.names.lookup x = some .local) (hy : X.env.scope.names.lookup y = some .local) (ha : PvA X fx Wx [a, b] ta)
    (hw : swappedStores [.Tuple [.Name x px, .Name y py] kt pt] (.Tuple [a, b] k2 pt2) X.env = pure (some [x, y]))
    (hs : swapsWithSole [.Tuple [.Name x px, .Name y py] kt pt] (.Tuple [a, b] k2 pt2) pos.line X.env = pure false := by rfl) (hfi : i ∉ fx := by decide) (hfj : j ∉ fx := by decide) :
    PvS X fx Wx (.Assign [.Tuple [.Name x px, .Name y py] kt pt] (.Tuple [a, b] k2 pt2) pos) (tParD i j ta) := by
  refine PS.imp (ps_par hc hN hi hj hij hx hy ha hw hs) fun D σ H h => ?_
  obtain ⟨Hs, ρ, DD, hr, ht, hq⟩ := h
  refine ⟨Hs, ρ, _, _, hr, ht, fun g1 vs rs h1 e1 rp p1 => ?_, hq.ex⟩
  have ⟨d, e, q1, q2⟩ : ∃ d e, allV rs = some [d, e] ∧ DD.nx ((g1.ρ.set i (some (.val d))).set j (some (.val e))) := by
    split at p1
    · exact ⟨_, _, rfl, p1⟩
    · exact p1.elim
  have dp := rp.dpa q1
  match vs, dp with
  | [v, w], .cons p (.cons q .nil) =>
    refine ⟨v, w, rfl, ?_⟩
    have := hq.nx _ (set_val (i := j) (v := w) (d := e) (set_val (i := i) (v := v) (d := d) h1 p) q) (ext_set_val (ext_set_val e1.ext hfi) hfj) q2
    simp only [e1.sg] at this
    exact this

/-! ### while -/
def tWhileD (c : TtD) (tb : TsD) : TsD := fun DD ρ => ∃ I : Nat → Rho → Prop, (∃ n, I n ρ) ∧ ∀ n ρ, I n ρ → c ρ (fun b ρ1 => br b (tb { DD with nx := fun ρ2 => ∃ m, m < n ∧ I m ρ2, ct := fun ρ2 => ∃ m, m < n ∧ I m ρ2, bk := DD.nx } ρ1) (DD.nx ρ1)) DD.ex
theorem pv_while {body : List Stmt} {tc : TtD} {tb : TsD} (hp : PassesOwn (model X.prog X.w) X.A X.env X.xe) (hc : PvT X fx Wx c tc) (hb : PvB X fx Wx body tb) : PvS X fx Wx (.While c body [] pos) (tWhileD tc tb) := by
  refine PS.imp (ps_while hp hc hb) fun D σ H h => ?_
  obtain ⟨Hs, ρ, DD, hr, ⟨I, ⟨n0, i0⟩, hI⟩, hq⟩ := h
  refine ⟨fun n σ' H' => ∃ Hs' ρ', Rel X.K ⟨Hs', ρ', σ', H'⟩ ∧ Ext fx ⟨Hs, ρ, σ, H⟩ ⟨Hs', ρ', σ', H'⟩ ∧ I n ρ', ⟨n0, Hs, ρ, hr, .refl, i0⟩, fun n σ1 H1 hW => ?_⟩
  obtain ⟨Hs1, ρ1, r1, e1, i1⟩ := hW
  refine ⟨Hs1, ρ1, _, _, r1, hI n ρ1 i1, fun g2 b r2 e2 p2 => ?_, hq.ex.go e1⟩
  obtain ⟨Hs2, ρ2, σ2, H2⟩ := g2
  obtain rfl : σ2 = σ1 := e2.sg
  have e12 := e1.trans e2.ext
  cases b with
  | false =>
    rw [if_neg Bool.false_ne_true]
    exact hq.nx ⟨Hs2, ρ2, σ2, H2⟩ r2 e12 p2
  | true =>
    rw [if_pos rfl]
    refine ⟨fun σ' H' => ∃ m, m < n ∧ ∃ Hs' ρ', Rel X.K ⟨Hs', ρ', σ', H'⟩ ∧ Ext fx ⟨Hs, ρ, σ, H⟩ ⟨Hs', ρ', σ', H'⟩ ∧ I m ρ', fun σ' H' h => h, Hs2, ρ2, _, r2, p2, ?_⟩
    have nx : ∀ g' : Gst, Rel X.K g' → Ext fx ⟨Hs2, ρ2, σ2, H2⟩ g' → (∃ m, m < n ∧ I m g'.ρ) → ∃ m, m < n ∧ ∃ Hs' ρ', Rel X.K ⟨Hs', ρ', g'.σ, g'.H⟩ ∧ Ext fx ⟨Hs, ρ, σ, H⟩ ⟨Hs', ρ', g'.σ, g'.H⟩ ∧ I m ρ' :=
      fun g' r' e' ⟨m, hm, im⟩ => ⟨m, hm, g'.Hs, g'.ρ, r', e12.trans e', im⟩
    have hq2 := hq.go e12
    exact ⟨nx, hq2.rt, hq2.nx, nx, hq2.ex⟩

/-! ### what a loop walks -/
/-- the lists that are walked as slots hold them, which the body leaves -/
abbrev Srcs := List (Nat × List D)
def srcOk (ss : Srcs) (ρ : Rho) : Prop := ∀ q ∈ ss, ρ[q.1]? = some (some (.own q.2))
/-- an iterator J yields the items one by one, while Ok stands -/
structure ItOk (K : PySem.W.Frag) (fx : List Nat) (ss : Srcs) (J : It) (items : List D) (Ok : Gst → Prop) : Prop where
  stay : ∀ g g', Ok g → Rel K g → Rel K g' → Ext fx g g' → srcOk ss g.ρ → srcOk ss g'.ρ → Ok g'
  go : ∀ (i : Nat) g, Ok g → Rel K g → i < items.length → J.go i g.H
  stop : ∀ (i : Nat) g, Ok g → Rel K g → items.length ≤ i → J.stop i g.H
  yld : ∀ (i : Nat) g x H' d, Ok g → Rel K g → J.yld i g.H x H' → items[i]? = some d → Res K g.Hs g.H x H' (.val d)
abbrev TiD := Rho → (List D → Srcs → Rho → Prop) → PostX → Prop
def liftI (X : Cx) (fx : List Nat) (Wx : WX) (t : TiD) : TI := fun σ H Q => ∃ (Hs : Hp) (ρ : Rho) (P : List D → Srcs → Rho → Prop) (PX : PostX), Rel X.K ⟨Hs, ρ, σ, H⟩ ∧ t ρ P PX ∧
  (∀ g' J items ss Ok, Rel X.K g' → GoE fx ⟨Hs, ρ, σ, H⟩ g' → ItOk X.K fx ss J items Ok → Ok g' → srcOk ss g'.ρ → P items ss g'.ρ → Q J g'.H) ∧ XOk X fx Wx ⟨Hs, ρ, σ, H⟩ PX
abbrev PvI (X : Cx) (fx : List Nat) (Wx : WX) (tg iter : Expr) (t : TiD) : Prop := PI X tg iter (liftI X fx Wx t)
theorem PI.imp {tg iter : Expr} {t t' : TI} (h : PI X tg iter t) (i : ∀ σ H Q, t' σ H Q → t σ H Q) : PI X tg iter t' := ⟨fun pins s σ H R I q => h.run pins s σ H R I (i σ H R q)⟩

/-! ### for -/
def loopD (ss : Srcs) (g : TgD) (tb : TsD) (DD : EndsD) : List D → Rho → Prop
  | [], ρ => DD.nx ρ
  | x :: xs, ρ => g x ρ fun ρ1 => tb { DD with nx := fun ρ2 => srcOk ss ρ2 ∧ loopD ss g tb DD xs ρ2, ct := fun ρ2 => srcOk ss ρ2 ∧ loopD ss g tb DD xs ρ2, bk := DD.nx } ρ1
def tForD (ti : TiD) (g : TgD) (tb : TsD) : TsD := fun DD ρ => ti ρ (fun items ss ρ1 => loopD ss g tb DD items ρ1) DD.ex
theorem pv_for {tg iter : Expr} {body : List Stmt} {ti : TiD} {g : TgD} {tb : TsD} (hp : PassesOwn (model X.prog X.w) X.A X.env X.xe) (hc : X.calm = true) (hi : PvI X fx Wx tg iter ti) (hg : PvG X fx tg g) (hb : PvB X fx Wx body tb)
    (hs : ∀ x, foldedSetIterable iter X.env x = pure x := by intro _; rfl) : PvS X fx Wx (.For tg iter body [] pos) (tForD ti g tb) := by
  refine PS.imp (ps_for hp hc hi hg hb hs) fun D σ H h => ?_
  obtain ⟨Hs, ρ, DD, hr, ht, hq⟩ := h
  refine ⟨Hs, ρ, _, _, hr, ht, fun g1 J items ss Ok r1 e1 it ok so p1 => ?_, hq.ex⟩
  obtain ⟨Hs1, ρ1, σ1, H1⟩ := g1
  obtain rfl : σ1 = σ := e1.sg
  refine ⟨fun i m σ' H' => m = items.length - i ∧ i ≤ items.length ∧ ∃ Hs' ρ', Rel X.K ⟨Hs', ρ', σ', H'⟩ ∧ Ext fx ⟨Hs, ρ, σ1, H⟩ ⟨Hs', ρ', σ', H'⟩ ∧ Ok ⟨Hs', ρ', σ', H'⟩ ∧ srcOk ss ρ' ∧ loopD ss g tb DD (items.drop i) ρ',
    ⟨items.length, by simp, Nat.zero_le _, Hs1, ρ1, r1, e1.ext, ok, so, p1⟩, ?_⟩
  rintro i m σ2 H2 ⟨rfl, hi, Hs2, ρ2, r2, e2, ok2, so2, lp⟩
  by_cases hlt : i < items.length
  · refine .inr ⟨it.go i _ ok2 r2 hlt, fun σ' H' => ∃ Hs' ρ', Rel X.K ⟨Hs', ρ', σ', H'⟩ ∧ Ext fx ⟨Hs, ρ, σ1, H⟩ ⟨Hs', ρ', σ', H'⟩ ∧ Ok ⟨Hs', ρ', σ', H'⟩ ∧ srcOk ss ρ' ∧ loopD ss g tb DD (items.drop (i + 1)) ρ', fun σ' H' ⟨Hs', ρ', a, b, c, d, e⟩ => ⟨items.length - (i + 1), by omega, rfl, hlt, Hs', ρ', a, b, c, d, e⟩, fun x H' y => ?_⟩
    have hd : items[i]? = some items[i] := List.getElem?_eq_getElem hlt
    obtain ⟨g3, r3, e3, rp3, hh3, hρ3, e23⟩ := (it.yld i ⟨Hs2, ρ2, σ2, H2⟩ x H' _ ok2 r2 y hd).go (fx := fx) (g0 := ⟨Hs2, ρ2, σ2, H2⟩) .refl r2
    obtain ⟨Hs3, ρ3, σ3, H3⟩ := g3
    obtain rfl : H3 = H' := hh3
    obtain rfl : ρ3 = ρ2 := hρ3
    obtain rfl : σ3 = σ2 := e3.sg
    rw [List.drop_eq_getElem_cons hlt] at lp
    refine ⟨Hs3, ρ3, _, _, r3, rp3, lp, fun g4 r4 e4 _ z => ⟨g4.Hs, g4.ρ, _, r4, z, ?_⟩⟩
    have e24 := e3.ext.trans e4
    have eall := e2.trans e24
    have nx : ∀ g' : Gst, Rel X.K g' → Ext fx g4 g' → (srcOk ss g'.ρ ∧ loopD ss g tb DD (items.drop (i + 1)) g'.ρ) → ∃ Hs' ρ', Rel X.K ⟨Hs', ρ', g'.σ, g'.H⟩ ∧ Ext fx ⟨Hs, ρ, σ1, H⟩ ⟨Hs', ρ', g'.σ, g'.H⟩ ∧ Ok ⟨Hs', ρ', g'.σ, g'.H⟩ ∧ srcOk ss ρ' ∧ loopD ss g tb DD (items.drop (i + 1)) ρ' :=
      fun g' r' e' ⟨s', l'⟩ => ⟨g'.Hs, g'.ρ, r', eall.trans e', it.stay _ g' ok2 r2 r' (e24.trans e') so2 s', s', l'⟩
    have hq2 := hq.go eall
    exact ⟨nx, hq2.rt, hq2.nx, nx, hq2.ex⟩
  · have e : i = items.length := by omega
    subst e
    refine .inl ⟨it.stop _ _ ok2 r2 (Nat.le_refl _), ?_⟩
    rw [List.drop_length] at lp
    exact hq.nx ⟨Hs2, ρ2, σ2, H2⟩ r2 e2 lp

/-! ### list comprehensions -/
/-- the slots of the block's own names forgotten; given back -/
def wipeD (ρ : Rho) : List Nat → Rho
  | [] => ρ
  | v :: vs => (wipeD ρ vs).set v none
def unwipe (ρ ρ' : Rho) : List Nat → Rho
  | [] => ρ'
  | v :: vs => (unwipe ρ ρ' vs).set v (ρ[v]?.getD none)
def noOwn (ρ : Rho) (vs : List Nat) : Prop := ∀ v ∈ vs, ∀ xs, ρ[v]? ≠ some (some (W.own xs))
end
end RR

/-! LayD: comprehensions, changes of lists, calls, defs. -/
namespace RR
open PySem PySem.Spec L2

/-! ### comprehensions -/
section
variable {X : Cx} {fx : List Nat} {Wx : WX} {e a b c : Expr} {es : List Expr} {pos : Pos} {st : Stmt} {sts : List Stmt}
abbrev noX : PostX := fun _ _ => False
abbrev W0 : WX := fun _ _ _ _ => False
def lcD (ss : Srcs) (vs : List Nat) (g : TgD) (tt : TtD) (te : TeD) (P : PostE) : List D → List D → Rho → Prop
  | [], acc, ρ => P (.own acc) ρ
  | x :: xs, acc, ρ => noOwn ρ vs ∧ acc.length < 1000000 ∧ g x (wipeD ρ vs) (fun ρ1 => tt ρ1 (fun b ρ2 =>
      br b (te ρ2 (fun r ρ3 => onSome (fz ρ3 r) fun p => srcOk ss (unwipe ρ p.2 vs) ∧ lcD ss vs g tt te P xs (acc ++ [p.1]) (unwipe ρ p.2 vs)) noX)
        (srcOk ss (unwipe ρ ρ2 vs) ∧ lcD ss vs g tt te P xs acc (unwipe ρ ρ2 vs))) noX)
def tLcD (ti : TiD) (g : TgD) (tt : TtD) (te : TeD) (vs : List Nat) : TeD := fun ρ P PX => ti ρ (fun items ss ρ1 => lcD ss vs g tt te P items [] ρ1) PX
def tYesD : TtD := fun ρ P _ => P true ρ
theorem PTs.imp {t t' : TT} (h : PTs X es t) (i : ∀ σ H Q, t' σ H Q → t σ H Q) : PTs X es t' := ⟨fun pins s σ H Q I q => h.run pins s σ H Q I (i σ H Q q)⟩
theorem pvTs_nil : PTs X [] (liftT X fx W0 tYesD) := PTs.imp pts_nil fun σ H Q ⟨Hs, ρ, P, PX, hr, ht, hq, _⟩ => hq ⟨Hs, ρ, σ, H⟩ true hr .refl ht
theorem pvTs_one {t : TtD} (h : PvT X fx W0 c t) : PTs X [c] (liftT X fx W0 t) := pts_one h

theorem Ext.mono {fx fx' : List Nat} {g g' : Gst} (e : Ext fx' g g') (h : ∀ i ∈ fx, i ∈ fx') : Ext fx g g' := ⟨e.same, e.new, e.frame, e.dom, e.own, fun i hi => e.fix i (h i hi), e.len⟩
theorem wipeD_length (ρ : Rho) : ∀ vs : List Nat, (wipeD ρ vs).length = ρ.length
  | [] => rfl
  | v :: vs => by unfold wipeD; rw [List.length_set, wipeD_length ρ vs]
theorem unwipe_length (ρ ρ' : Rho) : ∀ vs : List Nat, (unwipe ρ ρ' vs).length = ρ'.length
  | [] => rfl
  | v :: vs => by unfold unwipe; rw [List.length_set, unwipe_length ρ ρ' vs]
theorem wipeD_get {ρ : Rho} {w : W} {i : Nat} : ∀ {vs : List Nat}, (wipeD ρ vs)[i]? = some (some w) → i ∉ vs ∧ ρ[i]? = some (some w)
  | [], h => ⟨by simp, h⟩
  | v :: vs, h => by
    unfold wipeD at h
    rcases get_set h with ⟨rfl, z⟩ | ⟨ne, z⟩
    · cases z
    · obtain ⟨h1, h2⟩ := wipeD_get z
      exact ⟨by simp only [List.mem_cons, not_or]; exact ⟨fun q => ne q.symm, h1⟩, h2⟩
theorem unwipe_get {ρ ρ' : Rho} {w : W} {i : Nat} : ∀ {vs : List Nat}, (unwipe ρ ρ' vs)[i]? = some (some w) → (i ∈ vs ∧ ρ[i]? = some (some w)) ∨ (i ∉ vs ∧ ρ'[i]? = some (some w))
  | [], h => .inr ⟨by simp, h⟩
  | v :: vs, h => by
    unfold unwipe at h
    rcases get_set h with ⟨rfl, z⟩ | ⟨ne, z⟩
    · left
      refine ⟨by simp, ?_⟩
      cases q : ρ[v]? with
      | none => rw [q] at z; cases z
      | some o => rw [q] at z; cases z; rfl
    · rcases unwipe_get z with ⟨h1, h2⟩ | ⟨h1, h2⟩
      · exact .inl ⟨by simp [h1], h2⟩
      · exact .inr ⟨by simp only [List.mem_cons, not_or]; exact ⟨fun q => ne q.symm, h1⟩, h2⟩
theorem wipe_get_out {σ : L2.St} {i : Nat} : ∀ {vs : List Nat}, i ∉ vs → (wipe σ vs)[i]? = σ[i]?
  | [], _ => rfl
  | v :: vs, h => by
    simp only [List.mem_cons, not_or] at h
    unfold wipe
    rw [List.getElem?_set_ne (Ne.symm h.1)]
    exact wipe_get_out h.2
theorem wipe_get_in {σ : L2.St} {i : Nat} : ∀ {vs : List Nat}, i ∈ vs → (wipe σ vs)[i]? = if i < σ.length then some none else none
  | [], h => by simp at h
  | v :: vs, h => by
    unfold wipe
    by_cases e : v = i
    · subst e
      by_cases hl : v < σ.length
      · rw [List.getElem?_set_self (by rw [wipe_length]; exact hl), if_pos hl]
      · rw [List.getElem?_eq_none (by rw [List.length_set, wipe_length]; omega), if_neg hl]
    · rw [List.getElem?_set_ne e]
      refine wipe_get_in ?_
      rcases List.mem_cons.mp h with z | z
      · exact absurd z.symm e
      · exact z
theorem wipe_eq {σ σ2 : L2.St} {vs : List Nat} (hl : σ2.length = σ.length) (h : ∀ i, i ∉ vs → i < σ.length → σ2[i]? = σ[i]?) : wipe σ2 vs = wipe σ vs := by
  apply List.ext_getElem?
  intro i
  by_cases hi : i ∈ vs
  · rw [wipe_get_in hi, wipe_get_in hi, hl]
  · rw [wipe_get_out hi, wipe_get_out hi]
    by_cases hlt : i < σ.length
    · exact h i hi hlt
    · rw [List.getElem?_eq_none (by omega), List.getElem?_eq_none (by omega)]
theorem wipeD_out {ρ : Rho} {i : Nat} : ∀ {vs : List Nat}, i ∉ vs → (wipeD ρ vs)[i]? = ρ[i]?
  | [], _ => rfl
  | v :: vs, h => by
    simp only [List.mem_cons, not_or] at h
    unfold wipeD
    rw [List.getElem?_set_ne (Ne.symm h.1)]
    exact wipeD_out h.2
theorem unwipe_out {ρ ρ' : Rho} {i : Nat} : ∀ {vs : List Nat}, i ∉ vs → (unwipe ρ ρ' vs)[i]? = ρ'[i]?
  | [], _ => rfl
  | v :: vs, h => by
    simp only [List.mem_cons, not_or] at h
    unfold unwipe
    rw [List.getElem?_set_ne (Ne.symm h.1)]
    exact unwipe_out h.2
theorem unwipe_in {ρ ρ' : Rho} {i : Nat} {w : W} : ∀ {vs : List Nat}, i ∈ vs → ρ[i]? = some (some w) → i < ρ'.length → ∃ w', (unwipe ρ ρ' vs)[i]? = some (some w')
  | [], h, _, _ => by simp at h
  | v :: vs, h, z, hl => by
    unfold unwipe
    by_cases e : v = i
    · subst e
      rw [List.getElem?_set_self (by rw [unwipe_length]; exact hl), z]
      exact ⟨w, rfl⟩
    · rw [List.getElem?_set_ne e]
      refine unwipe_in ?_ z hl
      rcases List.mem_cons.mp h with q | q
      · exact absurd q.symm e
      · exact q
theorem owns_wipe {ρ : Rho} {σ : L2.St} {vs : List Nat} {i : Nat} {a : Addr} {xs : List D} (h : Owns (wipeD ρ vs) (wipe σ vs) i a xs) : i ∉ vs ∧ Owns ρ σ i a xs := by
  cases h with
  | top h1 h2 =>
    obtain ⟨n, h3⟩ := wipeD_get h1
    rw [wipe_get_out n] at h2
    exact ⟨n, .top h3 h2⟩
  | sub h1 h2 =>
    obtain ⟨n, h3⟩ := wipeD_get h1
    exact ⟨n, .sub h3 h2⟩
  | reg h1 h2 =>
    obtain ⟨n, h3⟩ := wipeD_get h1
    exact ⟨n, .reg h3 h2⟩
theorem own_wipe {ρ : Rho} {σ : L2.St} {vs : List Nat} {a : Addr} (h : OwnAt (wipeD ρ vs) (wipe σ vs) a) : OwnAt ρ σ a := let ⟨i, xs, h⟩ := h; ⟨i, xs, (owns_wipe h).2⟩
theorem rel_wipe {g : Gst} {vs : List Nat} (h : Rel X.K g) : Rel X.K ⟨g.Hs, wipeD g.ρ vs, wipe g.σ vs, g.H⟩ := by
  refine ⟨by rw [wipeD_length, wipe_length]; exact h.len, h.same, fun i d hd => ?_, fun i xs hx => ?_, fun i j p xs ys a1 a2 => h.sepO i j p xs ys (owns_wipe a1).2 (owns_wipe a2).2, fun i p its hx => ?_, fun i a dd fs hx => ?_, fun i r hx => ?_⟩
  · obtain ⟨n, z⟩ := wipeD_get hd
    obtain ⟨v, a, b⟩ := h.val i d z
    exact ⟨v, (wipe_get_out n).trans a, b⟩
  · obtain ⟨n, z⟩ := wipeD_get hx
    obtain ⟨p, vs', a, b⟩ := h.own i xs z
    exact ⟨p, vs', (wipe_get_out n).trans a, b⟩
  · obtain ⟨n, z⟩ := wipeD_get hx
    obtain ⟨q1, q2⟩ := h.nst i p its z
    exact ⟨(wipe_get_out n).trans q1, q2⟩
  · obtain ⟨n, z⟩ := wipeD_get hx
    obtain ⟨q1, q2⟩ := h.exc i a dd fs z
    exact ⟨(wipe_get_out n).trans q1, q2⟩
  · obtain ⟨n, z⟩ := wipeD_get hx
    obtain ⟨v, q1, q2⟩ := h.reg i r z
    exact ⟨v, (wipe_get_out n).trans q1, q2⟩
/-- a wiped slot's new tuple is nobody's on the way -/
theorem nst_wiped {g : Gst} {vs : List Nat} (h : Rel X.K g) {i : Nat} {p : Addr} {its : List (D ⊕ (Addr × List D))} (hi : i ∈ vs) (z : g.ρ[i]? = some (some (.nst p its))) : ∀ q ∈ p :: ads its, ¬ OwnAt (wipeD g.ρ vs) (wipe g.σ vs) q := fun q hq o => by
  obtain ⟨j, xs, o⟩ := o
  obtain ⟨n, o⟩ := owns_wipe o
  rcases List.mem_cons.mp hq with rfl | hq
  · obtain ⟨_, ⟨vs', t, _⟩, _⟩ := h.nst i _ _ z
    obtain ⟨us, w, m⟩ := OwnAt.there h ⟨j, xs, o⟩
    exact m.1 _ (Option.some.inj (w.symm.trans t))
  · obtain ⟨ys, m⟩ := ads_mem.mp hq
    have := h.sepO i j q ys xs (.sub z m) o
    subst this
    exact n hi
theorem reg_wiped {g : Gst} {vs : List Nat} (h : Rel X.K g) {i : Nat} {r : Reg} (hi : i ∈ vs) (z : g.ρ[i]? = some (some (.reg r))) : ∀ q, r.ads q → ¬ OwnAt (wipeD g.ρ vs) (wipe g.σ vs) q := fun q hq o => by
  obtain ⟨j, xs, o⟩ := o
  obtain ⟨n, o⟩ := owns_wipe o
  have := h.sepO i j q xs xs (.reg z hq) o
  subst this
  exact n hi
theorem rel_unwipe {g g' : Gst} {vs : List Nat} (h : Rel X.K g) (h' : Rel X.K g') (e : Ext fx ⟨g.Hs, wipeD g.ρ vs, wipe g.σ vs, g.H⟩ g') (w : wipe g'.σ vs = wipe g.σ vs) (no : noOwn g.ρ vs) : Rel X.K ⟨g'.Hs, unwipe g.ρ g'.ρ vs, g.σ, g'.H⟩ := by
  have ol : ∀ i, i ∉ vs → g'.σ[i]? = g.σ[i]? := fun i n => by rw [← wipe_get_out n, w, wipe_get_out n]
  have hl : g'.σ.length = g.σ.length := by rw [← wipe_length g'.σ vs, w, wipe_length]
  have s : Same g.Hs g'.Hs := e.same
  have ows : ∀ (i : Nat) (a : Addr) (xs : List D), Owns (unwipe g.ρ g'.ρ vs) g.σ i a xs → (i ∈ vs ∧ Owns g.ρ g.σ i a xs) ∨ (i ∉ vs ∧ Owns g'.ρ g'.σ i a xs) := fun i a xs o => by
    cases o with
    | top a1 a2 =>
      rcases unwipe_get a1 with ⟨n, z⟩ | ⟨n, z⟩
      · exact absurd z (no i n xs)
      · exact .inr ⟨n, .top z ((ol i n).trans a2)⟩
    | sub a1 a2 =>
      rcases unwipe_get a1 with ⟨n, z⟩ | ⟨n, z⟩
      · exact .inl ⟨n, .sub z a2⟩
      · exact .inr ⟨n, .sub z a2⟩
    | reg a1 a2 =>
      rcases unwipe_get a1 with ⟨n, z⟩ | ⟨n, z⟩
      · exact .inl ⟨n, .reg z a2⟩
      · exact .inr ⟨n, .reg z a2⟩
  have mix : ∀ (i j : Nat) (a : Addr) (xs ys : List D), i ∈ vs → Owns g.ρ g.σ i a xs → Owns g'.ρ g'.σ j a ys → False := fun i j a xs ys hi oi o => by
    rcases e.own a ⟨j, ys, o⟩ with y | y
    · obtain ⟨k, zs, y⟩ := y
      obtain ⟨n, y⟩ := owns_wipe y
      have := h.sepO i k a xs zs oi y
      subst this
      exact n hi
    · obtain ⟨o, w, _⟩ := OwnAt.there h ⟨i, xs, oi⟩
      have y : g.H a = none := y
      rw [y] at w
      cases w
  refine ⟨by rw [unwipe_length]; exact hl.symm.trans h'.len, h'.same, fun i d hd => ?_, fun i xs hx => ?_, fun i j p xs ys a1 a2 => ?_, fun i p its hx => ?_, fun i a dd fs hx => ?_, fun i r hx => ?_⟩
  · rcases unwipe_get hd with ⟨n, z⟩ | ⟨n, z⟩
    · obtain ⟨v, a, b⟩ := h.val i d z
      exact ⟨v, a, dp_mono s _ _ b⟩
    · obtain ⟨v, a, b⟩ := h'.val i d z
      exact ⟨v, (ol i n).symm.trans a, b⟩
  · rcases unwipe_get hx with ⟨n, z⟩ | ⟨n, z⟩
    · exact absurd z (no i n xs)
    · obtain ⟨p, vs', a, b⟩ := h'.own i xs z
      exact ⟨p, vs', (ol i n).symm.trans a, b⟩
  · rcases ows i p xs a1 with ⟨n1, o1⟩ | ⟨n1, o1⟩
    · rcases ows j p ys a2 with ⟨n2, o2⟩ | ⟨n2, o2⟩
      · exact h.sepO i j p xs ys o1 o2
      · exact (mix i j p xs ys n1 o1 o2).elim
    · rcases ows j p ys a2 with ⟨n2, o2⟩ | ⟨n2, o2⟩
      · exact (mix j i p ys xs n2 o2 o1).elim
      · exact h'.sepO i j p xs ys o1 o2
  · rcases unwipe_get hx with ⟨n, z⟩ | ⟨n, z⟩
    · obtain ⟨q1, q2⟩ := h.nst i p its z
      have k := NstAt.keep (g := ⟨g.Hs, wipeD g.ρ vs, wipe g.σ vs, g.H⟩) (g' := g') e (nst_wiped h n z) q2
      exact ⟨q1, k⟩
    · obtain ⟨q1, q2⟩ := h'.nst i p its z
      exact ⟨(ol i n).symm.trans q1, q2⟩
  · rcases unwipe_get hx with ⟨n, z⟩ | ⟨n, z⟩
    · obtain ⟨q1, q2⟩ := h.exc i a dd fs z
      exact ⟨q1, q2.mono s fun fv k => e.frame dd _ k fun z => let ⟨_, w, m⟩ := (own_wipe z).there h; m.2.1 _ (Option.some.inj (w.symm.trans k))⟩
    · obtain ⟨q1, q2⟩ := h'.exc i a dd fs z
      exact ⟨(ol i n).symm.trans q1, q2⟩
  · rcases unwipe_get hx with ⟨n, z⟩ | ⟨n, z⟩
    · obtain ⟨v, q1, q2⟩ := h.reg i r z
      refine ⟨v, q1, q2.mono s fun a o m y w => ?_⟩
      have no' := reg_wiped h n z a m
      obtain ⟨o1, y1, mu⟩ := r.there q2.1 m
      have : o1 = o := Option.some.inj (y1.symm.trans y)
      exact ⟨e.frame a _ y no', e.hs_none y w no' (this ▸ mu)⟩
    · obtain ⟨v, q1, q2⟩ := h'.reg i r z
      exact ⟨v, (ol i n).symm.trans q1, q2⟩
theorem ext_unwipe {g g' : Gst} {vs : List Nat} (e : Ext fx ⟨g.Hs, wipeD g.ρ vs, wipe g.σ vs, g.H⟩ g') (w : wipe g'.σ vs = wipe g.σ vs) (no : noOwn g.ρ vs) : Ext fx g ⟨g'.Hs, unwipe g.ρ g'.ρ vs, g.σ, g'.H⟩ := by
  have ol : ∀ i, i ∉ vs → g'.σ[i]? = g.σ[i]? := fun i n => by rw [← wipe_get_out n, w, wipe_get_out n]
  refine ⟨e.same, fun a o h n => (e.new a o h n).imp id (fun z => z.imp (fun y => ⟨own_wipe y.1, y.2⟩) id), fun a o h n => e.frame a o h fun z => n (own_wipe z), e.dom, fun a h => ?_, fun _ _ => rfl, rfl⟩
  obtain ⟨i, xs, o⟩ := h
  cases o with
  | top h1 h2 =>
    rcases unwipe_get h1 with ⟨n, z⟩ | ⟨n, z⟩
    · exact absurd z (no i n xs)
    · exact (e.own a (.top z ((ol i n).trans h2))).imp own_wipe id
  | sub h1 h2 =>
    rcases unwipe_get h1 with ⟨n, z⟩ | ⟨n, z⟩
    · exact .inl ⟨i, xs, .sub z h2⟩
    · exact (e.own a ⟨i, xs, .sub z h2⟩).imp own_wipe id
  | reg h1 h2 =>
    rcases unwipe_get h1 with ⟨n, z⟩ | ⟨n, z⟩
    · exact .inl ⟨i, xs, .reg z h2⟩
    · exact (e.own a ⟨i, xs, .reg z h2⟩).imp own_wipe id
/-- a temporary list over a step -/
theorem tmp_keep {g g' : Gst} {p : Addr} {vs : List V} {xs : List D} (e : Ext fx g g') (h1 : g.H p = some (.lst vs)) (h2 : DpAll X.K g.Hs vs xs) (h3 : g.Hs p = none) (h4 : ¬ OwnAt g.ρ g.σ p) :
    g'.H p = some (.lst vs) ∧ DpAll X.K g'.Hs vs xs ∧ g'.Hs p = none ∧ ¬ OwnAt g'.ρ g'.σ p := by
  refine ⟨e.frame p _ h1 h4, dpa_mono e.same _ _ h2, e.hs_none h1 h3 h4 Mut.lst, fun z => ?_⟩
  · rcases e.own p z with z | z
    · exact h4 z
    · rw [h1] at z; cases z
theorem ext_upd {g0 g : Gst} {p : Addr} {o : HO} (e : Ext fx g0 g) (n : g0.H p = none) : Ext fx g0 ⟨g.Hs, g.ρ, g.σ, upd g.H p o⟩ :=
  ⟨e.same, e.new, fun a x h k => (by show upd g.H p o a = some x; rw [upd_ne (ne_of_none h n)]; exact e.frame a x h k), fun a x h => (by
    obtain ⟨o', z⟩ := e.dom a x h
    exact ⟨o', by show upd g.H p o a = some o'; rw [upd_ne (ne_of_none h n)]; exact z⟩), e.own, e.fix, e.len⟩
theorem rel_upd {g : Gst} {p : Addr} {o : HO} (h : Rel X.K g) (n : g.Hs p = none) (k : ¬ OwnAt g.ρ g.σ p) (nx : ∀ fv, g.H p ≠ some (.xd fv)) (nt : ∀ vs, g.H p ≠ some (.tup vs)) : Rel X.K ⟨g.Hs, g.ρ, g.σ, upd g.H p o⟩ := by
  refine ⟨h.len, fun a x ha => ?_, h.val, fun i xs hx => ?_, h.sepO, fun i q its hx => let ⟨q1, q2⟩ := h.nst i q its hx; ⟨q1, q2.mono (.refl _) (fun vs z => ?_) fun r xs us m y w => ⟨?_, w⟩⟩, fun i a dd fs hx => let ⟨q1, q2⟩ := h.exc i a dd fs hx; ⟨q1, q2.mono (.refl _) fun fv z => ?_⟩, fun i r hx => let ⟨v, q1, q2⟩ := h.reg i r hx; ⟨v, q1, q2.mono (.refl _) fun a o' m y w => ⟨?_, w⟩⟩⟩
  · show upd g.H p o a = some x
    rw [upd_ne (ne_of_none ha n)]
    exact h.same a x ha
  · obtain ⟨q, vs, a, b, c, d⟩ := h.own i xs hx
    refine ⟨q, vs, a, ?_, c, d⟩
    have : q ≠ p := fun z => k (.top hx (by rw [← z]; exact a))
    show upd g.H p o q = _
    rw [upd_ne this]
    exact b
  · have : q ≠ p := fun y => nt vs (by rw [← y]; exact z)
    show upd g.H p o q = _
    rw [upd_ne this]
    exact z
  · have : r ≠ p := fun z => k ⟨i, xs, .sub hx (by rw [← z]; exact m)⟩
    show upd g.H p o r = _
    rw [upd_ne this]
    exact y
  · have : dd ≠ p := fun y => nx fv (by rw [← y]; exact z)
    show upd g.H p o dd = _
    rw [upd_ne this]
    exact z
  · have : a ≠ p := fun z => k ⟨i, [], .reg hx (by rw [← z]; exact m)⟩
    show upd g.H p o a = _
    rw [upd_ne this]
    exact y
theorem lc_imp {fx' : List Nat} {ti : TiD} {g : TgD} {tt : TtD} {te : TeD} {vs : List Nat} (hfx : ∀ i ∈ fx, i ∈ fx') (hvs : ∀ (n i : Nat), n = X.N.length → i < n → i ∈ vs ∨ i ∈ fx') (σ : L2.St) (hσ : σ.length = X.N.length) (H : Hp) (Q : VK)
    (h : liftE X fx Wx (tLcD ti g tt te vs) σ H Q) : tLc (liftI X fx Wx ti) (liftG X fx' g) (liftT X fx W0 tt) (liftE X fx W0 te) vs σ H Q := by
  obtain ⟨Hs, ρ, P, PX, hr, ht, hq, hx⟩ := h
  refine ⟨Hs, ρ, _, _, hr, ht, fun g1 J items ss Ok r1 e1 it ok so p1 => ?_, hx⟩
  obtain ⟨Hs1, ρ1, σ1, H1⟩ := g1
  obtain rfl : σ1 = σ := e1.sg
  intro L nL
  have nL : H1 L = none := nL
  obtain ⟨g2, r2, e2, rp2, hh2, hρ2, e12⟩ := (show Res X.K Hs1 H1 (.ref L) (upd H1 L (.lst [])) (.own []) from ⟨L, [], rfl, nL, rfl, .nil⟩).go (fx := fx) (g0 := ⟨Hs1, ρ1, σ1, H1⟩) (g := ⟨Hs1, ρ1, σ1, H1⟩) .refl r1
  obtain ⟨p, vs0, ep, t1, t2, t3, t4, t5⟩ := rp2
  cases ep
  refine ⟨fun i m H' => m = items.length - i ∧ i ≤ items.length ∧ ∃ Hs' ρ' acc va, Rel X.K ⟨Hs', ρ', σ1, H'⟩ ∧ Ext fx ⟨Hs1, ρ1, σ1, H1⟩ ⟨Hs', ρ', σ1, H'⟩ ∧ (∀ (i : Nat) (w : W), ρ1[i]? = some (some w) → ∃ w', ρ'[i]? = some (some w')) ∧ H' L = some (.lst va) ∧ DpAll X.K Hs' va acc ∧ Hs' L = none ∧ ¬ OwnAt ρ' σ1 L ∧ srcOk ss ρ' ∧ lcD ss vs g tt te P (items.drop i) acc ρ',
    ⟨items.length, by simp, Nat.zero_le _, g2.Hs, g2.ρ, [], vs0, ?_⟩, ?_⟩
  · have hs2 := e2.sg
    obtain ⟨Hs2, ρ2, σ2, H2⟩ := g2
    obtain rfl : σ2 = σ1 := hs2
    obtain rfl : H2 = _ := hh2
    obtain rfl : ρ2 = ρ1 := hρ2
    exact ⟨r2, e2.ext, fun i w z => ⟨w, z⟩, t1, t2, t3, t4, so, p1⟩
  rintro i m H2 ⟨rfl, hi, Hs2, ρ2, acc, va, r2, e2, kp2, t1, t2, t3, t4, so2, lp⟩
  have ok2 := it.stay _ _ ok r1 r2 e2 so so2
  by_cases hlt : i < items.length
  · refine .inr ⟨it.go i _ ok2 r2 hlt, fun H' => ∃ Hs' ρ' acc va, Rel X.K ⟨Hs', ρ', σ1, H'⟩ ∧ Ext fx ⟨Hs1, ρ1, σ1, H1⟩ ⟨Hs', ρ', σ1, H'⟩ ∧ (∀ (i : Nat) (w : W), ρ1[i]? = some (some w) → ∃ w', ρ'[i]? = some (some w')) ∧ H' L = some (.lst va) ∧ DpAll X.K Hs' va acc ∧ Hs' L = none ∧ ¬ OwnAt ρ' σ1 L ∧ srcOk ss ρ' ∧ lcD ss vs g tt te P (items.drop (i + 1)) acc ρ',
      fun H' h' => ⟨items.length - (i + 1), by omega, rfl, hlt, h'⟩, fun x H' y => ?_⟩
    have hd : items[i]? = some items[i] := List.getElem?_eq_getElem hlt
    obtain ⟨g3, r3, e3, rp3, hh3, hρ3, _⟩ := (it.yld i ⟨Hs2, ρ2, σ1, H2⟩ x H' _ ok2 r2 y hd).go (fx := fx) (g0 := ⟨Hs2, ρ2, σ1, H2⟩) .refl r2
    obtain ⟨Hs3, ρ3, σ3, H3⟩ := g3
    obtain rfl : H3 = H' := hh3
    obtain rfl : ρ3 = ρ2 := hρ3
    obtain rfl : σ3 = σ1 := e3.sg
    obtain ⟨t1, t2, t3, t4⟩ := tmp_keep e3.ext t1 t2 t3 t4
    rw [List.drop_eq_getElem_cons hlt] at lp
    obtain ⟨no, hacc, lp⟩ := lp
    refine ⟨Hs3, wipeD ρ3 vs, _, _, rel_wipe r3, rp3, lp, fun g4 r4 e4 k4 z4 => ?_⟩
    have hl4 : g4.σ.length = σ3.length := by
      have := e4.len
      simp only [wipe_length] at this
      exact this
    have w4 : wipe g4.σ vs = wipe σ3 vs := wipe_eq hl4 fun j n hj => by
      rcases hvs _ j rfl (by rw [← hσ]; exact hj) with q | q
      · exact absurd q n
      · have := e4.fix j q
        rw [this]
        exact wipe_get_out n
    refine ⟨w4, ?_⟩
    have e4' := e4.mono hfx
    have kpu : ∀ ρ' : Rho, Kp g4.ρ ρ' → ρ'.length = σ3.length → Kp ρ1 (unwipe ρ3 ρ' vs) := fun ρ' k hl j w z => by
      obtain ⟨w2, z2⟩ := kp2 j w z
      by_cases hj : j ∈ vs
      · exact unwipe_in hj z2 (by rw [hl, show σ3.length = ρ3.length from r3.len]; exact (List.getElem?_eq_some_iff.mp z2).1)
      · obtain ⟨w3, z3⟩ := (k4.trans k) j w2 ((wipeD_out hj).trans z2)
        exact ⟨w3, (unwipe_out hj).trans z3⟩
    refine ⟨g4.Hs, g4.ρ, _, _, r4, z4, fun g5 b5 r5 e5 p5 => ?_, fun _ _ _ _ _ _ _ z => z⟩
    have w5 : wipe g5.σ vs = wipe σ3 vs := by rw [e5.sg]; exact w4
    have e35 : Ext fx _ g5 := e4'.trans e5.ext
    cases b5 with
    | false =>
      obtain ⟨so5, lp5⟩ := (show srcOk ss (unwipe ρ3 g5.ρ vs) ∧ lcD ss vs g tt te P (items.drop (i + 1)) acc (unwipe ρ3 g5.ρ vs) from p5)
      have eu := ext_unwipe (g := ⟨Hs3, ρ3, σ3, H3⟩) e35 w5 no
      obtain ⟨t1, t2, t3, t4⟩ := tmp_keep eu t1 t2 t3 t4
      exact ⟨g5.Hs, unwipe ρ3 g5.ρ vs, acc, va, rel_unwipe (g := ⟨Hs3, ρ3, σ3, H3⟩) r3 r5 e35 w5 no, (e2.trans e3.ext).trans eu, kpu _ e5.kp (by rw [← r5.len, e5.sg]; exact hl4), t1, t2, t3, t4, so5, lp5⟩
    | true =>
      have s5 : g5.σ = g4.σ := e5.sg
      obtain ⟨Hs5, ρ5, σ5, H5⟩ := g5
      obtain rfl : σ5 = g4.σ := s5
      refine ⟨Hs5, ρ5, _, _, r5, p5, fun g6 v r r6 e6 rp6 p6 => ?_, fun _ _ _ _ _ _ _ z => z⟩
      obtain ⟨⟨d, ρ7⟩, q1, so7, lp7⟩ := onSome_ex p6
      obtain ⟨Hs7, r7, e7, dp7, kp7, _⟩ := freeze e6.ext r6 rp6 q1
      have w7 : wipe g6.σ vs = wipe σ3 vs := by rw [e6.sg]; exact w4
      have e37 := e35.trans e7
      have eu := ext_unwipe (g := ⟨Hs3, ρ3, σ3, H3⟩) (g' := ⟨Hs7, ρ7, g6.σ, g6.H⟩) e37 w7 no
      obtain ⟨t1, t2, t3, t4⟩ := tmp_keep eu t1 t2 t3 t4
      have ru := rel_unwipe (g := ⟨Hs3, ρ3, σ3, H3⟩) (g' := ⟨Hs7, ρ7, g6.σ, g6.H⟩) r3 r7 e37 w7 no
      have hla := dpa_len t2
      refine ⟨va, t1, by rw [hla]; exact Nat.lt_of_lt_of_le hacc (by decide), Hs7, unwipe ρ3 ρ7 vs, acc ++ [d], va ++ [v], rel_upd ru t3 t4 (fun fv z => nomatch z.symm.trans t1) (fun _ z => nomatch z.symm.trans t1), ext_upd ((e2.trans e3.ext).trans eu) nL, kpu _ ((show Kp g4.ρ ρ5 from e5.kp).trans (Kp.trans e6.kp kp7)) (by rw [← show g6.σ.length = ρ7.length from r7.len, e6.sg]; exact hl4), upd_same, dpa_append t2 (dpa_one dp7), t3, t4, so7, lp7⟩
  · have e : i = items.length := by omega
    subst e
    refine .inl ⟨it.stop _ _ ok2 r2 (Nat.le_refl _), ?_⟩
    rw [List.drop_length] at lp
    refine hq ⟨Hs2, ρ2, σ1, H2⟩ (.ref L) (.own acc) r2 ⟨e1.ext.trans e2, rfl, fun i w z => let ⟨w', z'⟩ := e1.kp i w z; kp2 i w' z'⟩ ⟨L, va, rfl, t1, t2, t3, t4, ?_⟩ lp
    left
    show H L = none
    cases q : H L with
    | none => rfl
    | some o =>
      obtain ⟨o', z⟩ := e1.ext.dom L o q
      have z : H1 L = some o' := z
      rw [nL] at z; cases z
end
end RR

/-! LayE: comprehensions' rules, iterators, changes of lists. -/
namespace RR
open PySem PySem.Spec L2
section
variable {X : Cx} {fx : List Nat} {Wx : WX} {e a b c : Expr} {es : List Expr} {pos : Pos} {st : Stmt} {sts : List Stmt}
theorem PE.impL {t t' : TE} (h : PE X e t) (i : ∀ σ H Q, σ.length = X.N.length → t' σ H Q → t σ H Q) : PE X e t' := ⟨fun pins s σ H Q I q => h.run pins s σ H Q I (i σ H Q I.len q)⟩
theorem PS.impL {t t' : TS} (h : PS X st t) (i : ∀ D σ H, σ.length = X.N.length → t' D σ H → t D σ H) : PS X st t' := ⟨fun pins s σ H D I q => h.run pins s σ H D I (i D σ H I.len q)⟩
theorem hvs_of {n : Nat} {vs fx' : List Nat} (h : ((List.range n).all fun i => vs.contains i || fx'.contains i) = true) : ∀ (m i : Nat), m = n → i < m → i ∈ vs ∨ i ∈ fx' := by
  rintro m i rfl hi
  have := List.all_eq_true.mp h i (List.mem_range.mpr hi)
  simpa using this
theorem pv_lc {elt tg iter : Expr} {ifs : List Expr} {scope : Scope} {own : List (Str × Nat)} {ti : TiD} {g : TgD} {tt : TtD} {te : TeD} (fx' : List Nat) (hc : X.calm = true) (hN : X.N.Nodup) (hi : PvI X fx Wx tg iter ti) (ok : BlkOk X.N X.env.scope scope own)
    (hg : ∀ (s : Shared) (H : Hp) (C : Addr) (cl : List (Str × Addr)) (fp : List Addr), PvG (X.blk s H scope (compEnvC scope cl C X.env) fp) fx' tg g) (ht : ∀ (s : Shared) (H : Hp) (C : Addr) (cl : List (Str × Addr)) (fp : List Addr), PTs (X.blk s H scope (compEnvC scope cl C X.env) fp) ifs (liftT (X.blk s H scope (compEnvC scope cl C X.env) fp) fx W0 tt))
    (he : ∀ (s : Shared) (H : Hp) (C : Addr) (cl : List (Str × Addr)) (fp : List Addr), Pv (X.blk s H scope (compEnvC scope cl C X.env) fp) fx W0 elt te) (hs : ∀ x, foldedSetIterable iter X.env x = pure x := by intro _; rfl)
    (hfx : ∀ i ∈ fx, i ∈ fx' := by decide) (hvs : ((List.range X.N.length).all fun i => (own.map (·.2)).contains i || fx'.contains i) = true := by rfl) : Pv X fx Wx (.ListComp elt [⟨tg, iter, ifs, 0⟩] scope pos) (tLcD ti g tt te (own.map (·.2))) :=
  PE.impL (pe_lc hc hN hi ok hg ht he hs) fun σ H Q hl h => lc_imp hfx (hvs_of hvs) σ hl H Q h
theorem pv_setLc (i : Nat) {y : Str} {py spos : Pos} {elt tg iter : Expr} {ifs : List Expr} {scope : Scope} {own : List (Str × Nat)} {ti : TiD} {g : TgD} {tt : TtD} {te : TeD} (fx' : List Nat) (hc : X.calm = true) (hN : X.N.Nodup) (hy : X.N[i]? = some y) (hyl : X.env.scope.names.lookup y = some .local)
    (hsw : swapsWith (.ListComp elt [⟨tg, iter, ifs, 0⟩] scope pos) (some (.Name y py)) spos.line X.env = pure true) (hi : PvI X fx Wx tg iter ti) (ok : BlkOk X.N X.env.scope scope own)
    (hg : ∀ (s : Shared) (H : Hp) (C : Addr) (cl : List (Str × Addr)) (fp : List Addr), PvG (X.blk s H scope (compEnvC scope cl C X.env) fp) fx' tg g) (ht : ∀ (s : Shared) (H : Hp) (C : Addr) (cl : List (Str × Addr)) (fp : List Addr), PTs (X.blk s H scope (compEnvC scope cl C X.env) fp) ifs (liftT (X.blk s H scope (compEnvC scope cl C X.env) fp) fx W0 tt))
    (he : ∀ (s : Shared) (H : Hp) (C : Addr) (cl : List (Str × Addr)) (fp : List Addr), Pv (X.blk s H scope (compEnvC scope cl C X.env) fp) fx W0 elt te) (hs : ∀ x, foldedSetIterable iter X.env x = pure x := by intro _; rfl)
    (hfi : i ∉ fx := by decide) (hfx : ∀ i ∈ fx, i ∈ fx' := by decide) (hvs : ((List.range X.N.length).all fun i => (own.map (·.2)).contains i || fx'.contains i) = true := by rfl) : PvS X fx Wx (.Assign [.Name y py] (.ListComp elt [⟨tg, iter, ifs, 0⟩] scope pos) spos) (tSetD i (tLcD ti g tt te (own.map (·.2)))) :=
  PS.impL (ps_setLc hc hN hy hyl hsw hi ok hg ht he hs) fun D σ H hl h => lc_imp hfx (hvs_of hvs) σ hl H _ (set_imp hfi D σ H h)

/-! ### what is walked -/
/-- a list that is walked: made data, but a list that a fixed slot holds -/
def itD (fx : List Nat) (ρ : Rho) : R → Option (List D × Srcs × Rho)
  | .val (.list ds) => some (ds, [], ρ)
  | .own xs => some (xs, [], ρ)
  | .var i => match ρ[i]? with
    | some (some (.val (.list ds))) => some (ds, [], ρ)
    | some (some (.own xs)) => if i ∈ fx then some (xs, [(i, xs)], ρ) else some (xs, [], ρ.set i (some (.val (.list xs))))
    | _ => none
  | _ => none
structure Src (K : PySem.W.Frag) (fx : List Nat) (ss : Srcs) (a : Addr) (ds : List D) (Ok : Gst → Prop) : Prop where
  stay : ∀ g g', Ok g → Rel K g → Rel K g' → Ext fx g g' → srcOk ss g.ρ → srcOk ss g'.ρ → Ok g'
  at_ : ∀ g, Ok g → Rel K g → ∃ vs, SqL K g.H a vs ∧ DpAll K g.Hs vs ds
theorem src_of {g0 g1 : Gst} {H0 : Bg} {v : V} {r : R} {ds : List D} {ss : Srcs} {ρ' : Rho} (e : GoE fx g0 g1) (h : Rel X.K g1) (rp : Rep X.K g1 H0 v r) (z : itD fx g1.ρ r = some (ds, ss, ρ')) :
    ∃ g2 a Ok, Rel X.K g2 ∧ GoE fx g0 g2 ∧ GoE fx g1 g2 ∧ g2.ρ = ρ' ∧ g2.H = g1.H ∧ v = .ref a ∧ Src X.K fx ss a ds Ok ∧ Ok g2 ∧ srcOk ss ρ' := by
  have shared : ∀ (g2 : Gst) , Rel X.K g2 → GoE fx g1 g2 → g2.ρ = ρ' → g2.H = g1.H → Dp X.K g2.Hs v (.list ds) → ss = [] → ∃ g2 a Ok, Rel X.K g2 ∧ GoE fx g0 g2 ∧ GoE fx g1 g2 ∧ g2.ρ = ρ' ∧ g2.H = g1.H ∧ v = .ref a ∧ Src X.K fx ss a ds Ok ∧ Ok g2 ∧ srcOk ss ρ' := fun g2 r2 e2 hρ hH dp hs => by
    subst hs
    cases dp with
    | lst h1 h2 =>
      rename_i a vs
      refine ⟨g2, a, fun g => SqL X.K g.Hs a vs ∧ DpAll X.K g.Hs vs ds, r2, e.trans e2, e2, hρ, hH, rfl, ⟨fun g g' ok _ _ e' _ _ => ⟨e'.same.seq ok.1, dpa_mono e'.same _ _ ok.2⟩, fun g ok r => ⟨vs, r.same.seq ok.1, ok.2⟩⟩, ⟨h1, h2⟩, fun q hq => by simp at hq⟩
  cases r with
  | val d =>
    cases d with
    | list ds' =>
      simp only [itD, Option.some.injEq, Prod.mk.injEq] at z
      obtain ⟨rfl, rfl, rfl⟩ := z
      exact shared g1 h .refl rfl rfl rp rfl
    | _ => simp [itD] at z
  | own xs =>
    simp only [itD, Option.some.injEq, Prod.mk.injEq] at z
    obtain ⟨rfl, rfl, rfl⟩ := z
    obtain ⟨p, vs, rfl, h1, h2, h3, h4, h5⟩ := rp
    refine ⟨g1, p, fun g => g.H p = some (.lst vs) ∧ DpAll X.K g.Hs vs xs ∧ g.Hs p = none ∧ ¬ OwnAt g.ρ g.σ p, h, e, .refl, rfl, rfl, rfl, ⟨fun g g' ok _ _ e' _ _ => tmp_keep e' ok.1 ok.2.1 ok.2.2.1 ok.2.2.2, fun g ok r => ⟨vs, .inl (.inl ok.1), ok.2.1⟩⟩, ⟨h1, h2, h3, h4⟩, fun q hq => by simp at hq⟩
  | var i =>
    obtain ⟨h1, w, h2⟩ := rp
    cases w with
    | val d =>
      obtain ⟨v', h3, h4⟩ := h.val i d h2
      rw [h1] at h3
      cases h3
      cases d with
      | list ds' =>
        simp only [itD, h2, Option.some.injEq, Prod.mk.injEq] at z
        obtain ⟨rfl, rfl, rfl⟩ := z
        exact shared g1 h .refl rfl rfl h4 rfl
      | _ => simp [itD, h2] at z
    | own xs =>
      simp only [itD, h2] at z
      by_cases hi : i ∈ fx
      · rw [if_pos hi] at z
        simp only [Option.some.injEq, Prod.mk.injEq] at z
        obtain ⟨rfl, rfl, rfl⟩ := z
        obtain ⟨p, vs, h3, h4, h5, h6⟩ := h.own i xs h2
        rw [h1] at h3
        cases h3
        refine ⟨g1, p, fun g => g.σ[i]? = some (some (.ref p)) ∧ g.ρ[i]? = some (some (.own xs)), h, e, .refl, rfl, rfl, rfl, ⟨fun g g' ok _ _ e' _ so => ⟨(e'.fix i hi).trans ok.1, so (i, xs) (by simp)⟩, fun g ok r => ?_⟩, ⟨h1, h2⟩, fun q hq => by simp at hq; subst hq; exact h2⟩
        obtain ⟨p', vs', z1, z2, z3, _⟩ := r.own i xs ok.2
        rw [ok.1] at z1
        cases z1
        exact ⟨vs', .inl (.inl z2), z3⟩
      · rw [if_neg hi] at z
        simp only [Option.some.injEq, Prod.mk.injEq] at z
        obtain ⟨rfl, rfl, rfl⟩ := z
        have rp : Rep X.K g1 (bg g1) v (.var i) := ⟨h1, _, h2⟩
        obtain ⟨Hs', a, b, c, d, _⟩ := freeze (fx := fx) (g := g1) .refl h rp (show fz g1.ρ (.var i) = some (.list xs, g1.ρ.set i (some (.val (.list xs)))) by simp only [fz, h2])
        exact shared ⟨Hs', _, g1.σ, g1.H⟩ a ⟨b, rfl, d⟩ rfl rfl c rfl
    | exc a dd fs => simp [itD, h2] at z
    | nst p its => simp [itD, h2] at z
    | reg r => simp [itD, h2] at z
  | nst p its => simp [itD] at z

def tiL (fx : List Nat) (te : TeD) : TiD := fun ρ P PX => te ρ (fun r ρ1 => onSome (itD fx ρ1 r) fun p => P p.1 p.2.1 p.2.2) PX
theorem pvI_list {tg : Expr} {te : TeD} (h : Pv X fx Wx e te) : PvI X fx Wx tg e (tiL fx te) := by
  refine PI.imp (pi_list h) fun σ H Q h => ?_
  obtain ⟨Hs, ρ, P, PX, hr, ht, hq, hx⟩ := h
  refine ⟨Hs, ρ, _, _, hr, ht, fun g1 v r h1 e1 rp p1 => ?_, hx⟩
  obtain ⟨⟨ds, ss, ρ2⟩, q1, q2⟩ := onSome_ex p1
  obtain ⟨g2, a, Ok, r2, e2, _, hρ, hH, rfl, sc, ok, so⟩ := src_of e1 h1 rp q1
  obtain ⟨vs, s1, s2⟩ := sc.at_ g2 ok r2
  rw [← hH]
  refine ⟨a, rfl, ⟨vs, s1⟩, hq g2 _ ds ss Ok r2 e2 ⟨sc.stay, fun i g ok r hi => ?_, fun i g ok r hi => ?_, fun i g x H' d ok r y hd => ?_⟩ ok (by rw [hρ]; exact so) (by rw [hρ]; exact q2)⟩
  · obtain ⟨vs, s1, s2⟩ := sc.at_ g ok r
    have : i < vs.length := by rw [dpa_len s2]; exact hi
    exact ⟨vs, vs[i], s1, List.getElem?_eq_getElem this⟩
  · obtain ⟨vs, s1, s2⟩ := sc.at_ g ok r
    exact ⟨vs, s1, by rw [dpa_len s2]; exact hi⟩
  · obtain ⟨vs, s1, s2⟩ := sc.at_ g ok r
    obtain ⟨rfl, y⟩ := y
    obtain ⟨v, z1, z2⟩ := dpa_get s2 hd
    rw [y vs s1] at z1
    cases z1
    exact .pure r.same z2
/-- a tuple -/
def tiT (te : TeD) : TiD := fun ρ P PX => te ρ (fun r ρ1 => onSome (asT (rd ρ1 r)) fun ds => P ds [] ρ1) PX
theorem pvI_tup {tg : Expr} {te : TeD} (h : Pv X fx Wx e te) : PvI X fx Wx tg e (tiT te) := by
  refine PI.imp (pi_tup h) fun σ H Q h => ?_
  obtain ⟨Hs, ρ, P, PX, hr, ht, hq, hx⟩ := h
  refine ⟨Hs, ρ, _, _, hr, ht, fun g1 v r h1 e1 rp p1 => ?_, hx⟩
  obtain ⟨ds, q1, q2⟩ := onSome_ex p1
  have lk := rp.lk h1 (asT_of q1)
  have dp : Dp X.K g1.Hs v (.tuple ds) := by
    rcases lk with z | ⟨_, _, _, _, z, _⟩
    · exact z
    · cases z
  cases dp with
  | tup z1 z2 =>
    rename_i a vs
    refine ⟨a, rfl, ⟨vs, seqT_mono h1.same z1⟩, hq g1 _ ds [] (fun g => SqT X.K g.Hs a vs ∧ DpAll X.K g.Hs vs ds) h1 e1 ⟨fun g g' ok _ _ e' _ _ => ⟨seqT_mono e'.same ok.1, dpa_mono e'.same _ _ ok.2⟩, fun i g ok r hi => ?_, fun i g ok r hi => ?_, fun i g x H' d ok r y hd => ?_⟩ ⟨z1, z2⟩ (fun q hq => by simp at hq) q2⟩
    · have : i < vs.length := by rw [dpa_len ok.2]; exact hi
      exact ⟨vs, vs[i], seqT_mono r.same ok.1, List.getElem?_eq_getElem this⟩
    · exact ⟨vs, seqT_mono r.same ok.1, by rw [dpa_len ok.2]; exact hi⟩
    · obtain ⟨rfl, y⟩ := y
      obtain ⟨v, z1, z2⟩ := dpa_get ok.2 hd
      rw [y vs (seqT_mono r.same ok.1)] at z1
      cases z1
      exact .pure r.same z2
/-- ranges -/
def rngD (lo : Int) (n : Nat) : List D := (List.range n).map fun i => .int (lo + (i : Nat))
theorem rng_ok {lo : Int} {n : Nat} : ItOk X.K fx [] (Itr lo n) (rngD lo n) (fun _ => True) := by
  have hl : (rngD lo n).length = n := by simp [rngD]
  refine ⟨fun _ _ _ _ _ _ _ _ => trivial, fun i g _ _ hi => by rw [hl] at hi; exact hi, fun i g _ _ hi => by rw [hl] at hi; exact hi, fun i g x H' d _ r y hd => ?_⟩
  obtain ⟨rfl, rfl⟩ := y
  have : i < n := by
    have := (List.getElem?_eq_some_iff.mp hd).1
    rw [hl] at this
    exact this
  have e : (rngD lo n)[i]? = some (.int (lo + (i : Nat))) := by simp [rngD, this]
  rw [e] at hd
  cases hd
  exact .pure r.same (.int _)
def tiR1 (ta : TaD) : TiD := fun ρ P PX => ta ρ (fun rs ρ1 => match rs with
  | [.val (.int j)] => (j < 4611686018427387904 ∧ -4611686018427387904 ≤ j) ∧ P (rngD 0 j.toNat) [] ρ1
  | _ => False) PX
def tiR2 (ta : TaD) : TiD := fun ρ P PX => ta ρ (fun rs ρ1 => match rs with
  | [.val (.int i), .val (.int j)] => (-4611686018427387904 ≤ i ∧ i < 4611686018427387904 ∧ -4611686018427387904 ≤ j ∧ j < 4611686018427387904) ∧ P (rngD i (j - i).toNat) [] ρ1
  | _ => False) PX
theorem pvI_range1 {tg : Expr} {ta : TaD} {p : Pos} (hg : Gl X "range") (hm : X.mg "range" = none) (ha : PvA X fx Wx [a] ta) (hs : starEach [a] X.env = [(false, eval a X.env)] := by rfl) : PvI X fx Wx tg (.Call (.Name "range" p) [a] [] pos) (tiR1 ta) := by
  refine PI.imp (pi_range1 hg hm ha hs) fun σ H Q h => ?_
  obtain ⟨Hs, ρ, P, PX, hr, ht, hq, hx⟩ := h
  refine ⟨Hs, ρ, _, _, hr, ht, fun g1 vs rs h1 e1 rp p1 => ?_, hx⟩
  have ⟨j, q1, q2, q3, q4⟩ : ∃ j, allV rs = some [.int j] ∧ j < 2 ^ 62 ∧ -(2 ^ 62) ≤ j ∧ P (rngD 0 j.toNat) [] g1.ρ := by
    split at p1
    · exact ⟨_, rfl, by omega, by omega, p1.2⟩
    · exact p1.elim
  match vs, rp.dpa q1 with
  | [_], .cons (.int _) .nil => exact ⟨j, rfl, q3, q2, hq g1 _ _ [] (fun _ => True) h1 e1 rng_ok trivial (fun q hq => by simp at hq) q4⟩
theorem pvI_range2 {tg : Expr} {ta : TaD} {p : Pos} (hg : Gl X "range") (hm : X.mg "range" = none) (ha : PvA X fx Wx [a, b] ta) (hs : starEach [a, b] X.env = [(false, eval a X.env), (false, eval b X.env)] := by rfl) (hs2 : starEach [b] X.env = [(false, eval b X.env)] := by rfl) : PvI X fx Wx tg (.Call (.Name "range" p) [a, b] [] pos) (tiR2 ta) := by
  refine PI.imp (pi_range2 hg hm ha hs hs2) fun σ H Q h => ?_
  obtain ⟨Hs, ρ, P, PX, hr, ht, hq, hx⟩ := h
  refine ⟨Hs, ρ, _, _, hr, ht, fun g1 vs rs h1 e1 rp p1 => ?_, hx⟩
  have ⟨i, j, q1, q2, q4⟩ : ∃ i j, allV rs = some [.int i, .int j] ∧ (-(2 ^ 62) ≤ i ∧ i < 2 ^ 62 ∧ -(2 ^ 62) ≤ j ∧ j < 2 ^ 62) ∧ P (rngD i (j - i).toNat) [] g1.ρ := by
    split at p1
    · exact ⟨_, _, rfl, by omega, p1.2⟩
    · exact p1.elim
  match vs, rp.dpa q1 with
  | [_, _], .cons (.int _) (.cons (.int _) .nil) => exact ⟨i, j, rfl, q2, hq g1 _ _ [] (fun _ => True) h1 e1 rng_ok trivial (fun q hq => by simp at hq) q4⟩
/-- a new tuple -/
theorem res_tup {g : Gst} {T : Addr} {vs : List V} {ds : List D} (h : Rel X.K g) (n : g.H T = none) (dp : DpAll X.K g.Hs vs ds) : Res X.K g.Hs g.H (.ref T) (upd g.H T (.tup vs)) (.val (.tuple ds)) := by
  have n2 : g.Hs T = none := by
    cases q : g.Hs T with
    | none => rfl
    | some o =>
      rw [h.same T o q] at n
      cases n
  have sm : Same g.Hs (upd g.Hs T (.tup vs)) := same_upd n2
  exact ⟨upd g.Hs T (.tup vs), sm, (fun a o x k => by
      by_cases ha : a = T
      · rw [ha] at x ⊢; rw [upd_same] at x; exact ⟨n, by rw [← Option.some.inj x]; exact Nfz.tup⟩
      · rw [upd_ne ha, k] at x; cases x), (fun a o x => by
      by_cases ha : a = T
      · subst ha; rw [upd_same] at x ⊢; exact x
      · rw [upd_ne ha] at x ⊢; exact h.same a o x), same_upd n, .tup (.inl (.inl upd_same)) (dpa_mono sm _ _ dp)⟩
def enD (ds : List D) : List D := ds.zipIdx.map fun p => .tuple [.int (p.2 : Nat), p.1]
def tiEn (fx : List Nat) (ta : TaD) : TiD := fun ρ P PX => ta ρ (fun rs ρ1 => match rs with
  | [r] => onSome (itD fx ρ1 r) fun p => P (enD p.1) p.2.1 p.2.2
  | _ => False) PX
theorem pvI_enum {ta : TaD} {p tpos : Pos} {elts : List Expr} {kk : Nat} (hg : Gl X "enumerate") (hm : X.mg "enumerate" = none) (ha : PvA X fx Wx [e] ta) (hs : starEach [e] X.env = [(false, eval e X.env)] := by rfl) : PvI X fx Wx (.Tuple elts kk tpos) (.Call (.Name "enumerate" p) [e] [] pos) (tiEn fx ta) := by
  refine PI.imp (pi_enum hg hm ha hs) fun σ H Q h => ?_
  obtain ⟨Hs, ρ, P, PX, hr, ht, hq, hx⟩ := h
  refine ⟨Hs, ρ, _, _, hr, ht, fun g1 vs rs h1 e1 rp p1 => ?_, hx⟩
  have ⟨r, ds, ss, ρ2, hrs, q1, q2⟩ : ∃ r ds ss ρ2, rs = [r] ∧ itD fx g1.ρ r = some (ds, ss, ρ2) ∧ P (enD ds) ss ρ2 := by
    split at p1
    · obtain ⟨⟨ds, ss, ρ2⟩, q1, q2⟩ := onSome_ex p1
      exact ⟨_, _, _, _, rfl, q1, q2⟩
    · exact p1.elim
  subst hrs
  match vs, rp with
  | [v], rp =>
  obtain ⟨g2, a, Ok, r2, e2, _, hρ, hH, rfl, sc, ok, so⟩ := src_of e1 h1 rp.1 q1
  obtain ⟨vs, s1, s2⟩ := sc.at_ g2 ok r2
  have hl : (enD ds).length = ds.length := by simp [enD]
  rw [← hH]
  refine ⟨a, vs, rfl, s1, hq g2 _ (enD ds) ss Ok r2 e2 ⟨sc.stay, fun i g ok r hi => ?_, fun i g ok r hi => ?_, fun i g x H' d ok r y hd => ?_⟩ ok (by rw [hρ]; exact so) (by rw [hρ]; exact q2)⟩
  · obtain ⟨vs, s1, s2⟩ := sc.at_ g ok r
    have : i < vs.length := by rw [dpa_len s2, ← hl]; exact hi
    exact ⟨vs, vs[i], s1, List.getElem?_eq_getElem this⟩
  · obtain ⟨vs, s1, s2⟩ := sc.at_ g ok r
    exact ⟨vs, s1, by rw [dpa_len s2, ← hl]; exact hi⟩
  · obtain ⟨vs, s1, s2⟩ := sc.at_ g ok r
    obtain ⟨T, x', rfl, nT, rfl, y⟩ := y
    have hi : i < ds.length := by
      have := (List.getElem?_eq_some_iff.mp hd).1
      rw [hl] at this
      exact this
    have ed : (enD ds)[i]? = some (.tuple [.int (i : Nat), ds[i]]) := by
      simp [enD, hi]
    rw [ed] at hd
    cases hd
    obtain ⟨v, z1, z2⟩ := dpa_get s2 (List.getElem?_eq_getElem hi)
    rw [y vs s1] at z1
    cases z1
    exact res_tup r nT (.cons (.int _) (.cons z2 .nil))
def zipD (ds es : List D) : List D := List.zipWith (fun d e => .tuple [d, e]) ds es
def tiZip (fx : List Nat) (ta : TaD) : TiD := fun ρ P PX => ta ρ (fun rs ρ1 => match rs with
  | [r1, r2] => onSome (itD fx ρ1 r1) fun p => onSome (itD fx p.2.2 r2) fun q => srcOk p.2.1 q.2.2 ∧ P (zipD p.1 q.1) (p.2.1 ++ q.2.1) q.2.2
  | _ => False) PX
theorem pvI_zip {e2 : Expr} {ta : TaD} {p tpos : Pos} {elts : List Expr} {kk : Nat} (hg : Gl X "zip") (hm : X.mg "zip" = none) (ha : PvA X fx Wx [e, e2] ta)
    (hs : starEach [e, e2] X.env = (false, eval e X.env) :: starEach [e2] X.env := by rfl) (hpl : (backTo pos (starEach [e2] X.env)).any (·.1) = false := by rfl) : PvI X fx Wx (.Tuple elts kk tpos) (.Call (.Name "zip" p) [e, e2] [] pos) (tiZip fx ta) := by
  refine PI.imp (pi_zip hg hm ha hs hpl) fun σ H Q h => ?_
  obtain ⟨Hs, ρ, P, PX, hr, ht, hq, hx⟩ := h
  refine ⟨Hs, ρ, _, _, hr, ht, fun g1 vs rs h1 e1 rp p1 => ?_, hx⟩
  have ⟨r1, r2, ds, ss, ρ2, es, ss2, ρ3, hrs, q1, q2, q3, q4⟩ : ∃ r1 r2 ds ss ρ2 es ss2 ρ3, rs = [r1, r2] ∧ itD fx g1.ρ r1 = some (ds, ss, ρ2) ∧ itD fx ρ2 r2 = some (es, ss2, ρ3) ∧ P (zipD ds es) (ss ++ ss2) ρ3 ∧ srcOk ss ρ3 := by
    split at p1
    · obtain ⟨⟨ds, ss, ρ2⟩, q1, p1⟩ := onSome_ex p1
      obtain ⟨⟨es, ss2, ρ3⟩, q2, q3, q4⟩ := onSome_ex p1
      exact ⟨_, _, _, _, _, _, _, _, rfl, q1, q2, q4, q3⟩
    · exact p1.elim
  subst hrs
  match vs, rp with
  | [v, v2], rp =>
  obtain ⟨g2, a, Ok, h2, e2, e12, hρ, hH, rfl, sc, ok, so⟩ := src_of e1 h1 rp.1 q1
  obtain ⟨g3, b, Ok2, h3, e3, e23, hρ3, hH3, rfl, sc2, ok2, so2⟩ := src_of e2 h2 (e12.keep rp.2.1) (by rw [hρ]; exact q2)
  have ok3 : Ok g3 := sc.stay g2 g3 ok h2 h3 e23.ext (by rw [hρ]; exact so) (by rw [hρ3]; exact q4)
  obtain ⟨xs, s1, s2⟩ := sc.at_ g3 ok3 h3
  obtain ⟨ys, s3, s4⟩ := sc2.at_ g3 ok2 h3
  have hl : (zipD ds es).length = min ds.length es.length := by simp [zipD]
  rw [← hH, ← hH3]
  refine ⟨a, b, xs, ys, rfl, s1, s3, hq g3 _ (zipD ds es) (ss ++ ss2) (fun g => Ok g ∧ Ok2 g) h3 e3 ⟨fun g g' ok r r' e' so so' => ⟨sc.stay g g' ok.1 r r' e' (fun q hq => so q (List.mem_append_left _ hq)) (fun q hq => so' q (List.mem_append_left _ hq)), sc2.stay g g' ok.2 r r' e' (fun q hq => so q (List.mem_append_right _ hq)) (fun q hq => so' q (List.mem_append_right _ hq))⟩, fun i g ok r hi => ?_, fun i g ok r hi => ?_, fun i g x H' d ok r y hd => ?_⟩ ⟨ok3, ok2⟩ (fun q hq => ?_) (by rw [hρ3]; exact q3)⟩
  · obtain ⟨xs, s1, s2⟩ := sc.at_ g ok.1 r
    obtain ⟨ys, s3, s4⟩ := sc2.at_ g ok.2 r
    have l1 := dpa_len s2
    have l2 := dpa_len s4
    have h1 : i < xs.length := by omega
    have h2 : i < ys.length := by omega
    exact ⟨xs, ys, xs[i], ys[i], s1, s3, List.getElem?_eq_getElem h1, List.getElem?_eq_getElem h2⟩
  · obtain ⟨xs, s1, s2⟩ := sc.at_ g ok.1 r
    obtain ⟨ys, s3, s4⟩ := sc2.at_ g ok.2 r
    have l1 := dpa_len s2
    have l2 := dpa_len s4
    exact ⟨xs, ys, s1, s3, by omega⟩
  · obtain ⟨xs, s1, s2⟩ := sc.at_ g ok.1 r
    obtain ⟨ys, s3, s4⟩ := sc2.at_ g ok.2 r
    obtain ⟨T, x1, x2, rfl, nT, rfl, y1, y2⟩ := y
    have hi : i < min ds.length es.length := by
      have := (List.getElem?_eq_some_iff.mp hd).1
      rw [hl] at this
      exact this
    have hi1 : i < ds.length := by omega
    have hi2 : i < es.length := by omega
    have ed : (zipD ds es)[i]? = some (.tuple [ds[i], es[i]]) := by
      unfold zipD
      rw [List.getElem?_zipWith, List.getElem?_eq_getElem hi1, List.getElem?_eq_getElem hi2]
    rw [ed] at hd
    cases hd
    obtain ⟨v, z1, z2⟩ := dpa_get s2 (List.getElem?_eq_getElem hi1)
    rw [y1 xs s1] at z1
    cases z1
    obtain ⟨v, z1, z3⟩ := dpa_get s4 (List.getElem?_eq_getElem hi2)
    rw [y2 ys s3] at z1
    cases z1
    exact res_tup r nT (.cons z2 (.cons z3 .nil))
  · rw [hρ3]
    rcases List.mem_append.mp hq with z | z
    · exact q4 q z
    · exact so2 q z
def tiRev (fx : List Nat) (te : TeD) : TiD := fun ρ P PX => te ρ (fun r ρ1 => onSome (itD fx ρ1 r) fun p => P p.1.reverse p.2.1 p.2.2) PX
theorem pvI_rev {tg : Expr} {te : TeD} {p : Pos} (hg : Gl X "reversed") (hm : X.mg "reversed" = none) (h : Pv X fx Wx e te) (hs : starEach [e] X.env = (false, eval e X.env) :: starEach [] X.env := by rfl) : PvI X fx Wx tg (.Call (.Name "reversed" p) [e] [] pos) (tiRev fx te) := by
  refine PI.imp (RT.pi_revA hg hm h hs) fun σ H Q h => ?_
  obtain ⟨Hs, ρ, P, PX, hr, ht, hq, hx⟩ := h
  refine ⟨Hs, ρ, _, _, hr, ht, fun g1 v r h1 e1 rp p1 => ?_, hx⟩
  obtain ⟨⟨ds, ss, ρ2⟩, q1, q2⟩ := onSome_ex p1
  obtain ⟨g2, a, Ok, r2, e2, _, hρ, hH, rfl, sc, ok, so⟩ := src_of e1 h1 rp q1
  obtain ⟨vs, s1, s2⟩ := sc.at_ g2 ok r2
  rw [← hH]
  have hl : ds.reverse.length = ds.length := List.length_reverse
  have hlv := dpa_len s2
  refine ⟨a, vs, rfl, .inl ⟨s1, hq g2 _ ds.reverse ss Ok r2 e2 ⟨sc.stay, fun i g ok r hi => ?_, fun i g ok r hi => ?_, fun i g x H' d ok r y hd => ?_⟩ ok (by rw [hρ]; exact so) (by rw [hρ]; exact q2)⟩⟩
  · obtain ⟨ws, s1, s2⟩ := sc.at_ g ok r
    have hlw := dpa_len s2
    have hi' : i < vs.length := by omega
    have : vs.length - 1 - i < ws.length := by omega
    exact ⟨hi', ws, ws[vs.length - 1 - i], s1, List.getElem?_eq_getElem this⟩
  · show vs.length ≤ i
    omega
  · obtain ⟨ws, s1, s2⟩ := sc.at_ g ok r
    obtain ⟨rfl, y⟩ := y
    have hi : i < ds.length := by
      have := (List.getElem?_eq_some_iff.mp hd).1
      omega
    have ed : ds[vs.length - 1 - i]? = some d := by
      rw [List.getElem?_reverse hi] at hd
      rw [hlv]
      exact hd
    obtain ⟨v, z1, z2⟩ := dpa_get s2 ed
    rw [y ws s1] at z1
    cases z1
    exact .pure r.same z2
end
end RR

/-! LayF: lists changed, calls, defs. -/
namespace RR
open PySem PySem.Spec L2
section
variable {X : Cx} {fx : List Nat} {Wx : WX} {e a b c : Expr} {es : List Expr} {pos : Pos} {st : Stmt} {sts : List Stmt}
/-! ### a slot's own list is changed -/
theorem mut_go {g0 g : Gst} {i : Nat} {xs ys : List D} {p : Addr} {vs : List V} (h : Rel X.K g) (e : GoE fx g0 g) (h1 : g.ρ[i]? = some (some (.own xs))) (h2 : g.σ[i]? = some (some (.ref p))) (dp : DpAll X.K g.Hs vs ys) :
    Rel X.K ⟨g.Hs, g.ρ.set i (some (.own ys)), g.σ, upd g.H p (.lst vs)⟩ ∧ GoE fx g0 ⟨g.Hs, g.ρ.set i (some (.own ys)), g.σ, upd g.H p (.lst vs)⟩ := by
  have own : OwnAt g.ρ g.σ p := .top h1 h2
  have hn := own.hs h
  have hl : i < g.ρ.length := (List.getElem?_eq_some_iff.mp h1).1
  have ows : ∀ (j : Nat) (a : Addr) (zs : List D), Owns (g.ρ.set i (some (.own ys))) g.σ j a zs → ∃ zs', Owns g.ρ g.σ j a zs' := fun j a zs o => by
    cases o with
    | top z1 z2 =>
      rcases get_set z1 with ⟨rfl, z⟩ | ⟨ne, z⟩
      · exact ⟨xs, .top h1 z2⟩
      · exact ⟨zs, .top z z2⟩
    | sub z1 z2 =>
      rcases get_set z1 with ⟨rfl, z⟩ | ⟨ne, z⟩
      · cases z
      · exact ⟨zs, .sub z z2⟩
    | reg z1 z2 =>
      rcases get_set z1 with ⟨rfl, z⟩ | ⟨ne, z⟩
      · cases z
      · exact ⟨zs, .reg z z2⟩
  have ow : ∀ a, OwnAt (g.ρ.set i (some (.own ys))) g.σ a → OwnAt g.ρ g.σ a := fun a ⟨j, zs, o⟩ => let ⟨zs', o'⟩ := ows j a zs o; ⟨j, zs', o'⟩
  refine ⟨⟨h.len.trans (List.length_set ..).symm, fun a o ha => ?_, fun j d hd => ?_, fun j zs hz => ?_, fun j k q zs ws a1 a2 => let ⟨_, b1⟩ := ows j q zs a1; let ⟨_, b2⟩ := ows k q ws a2; h.sepO j k q _ _ b1 b2, fun j q its hx => ?_, fun j a dd fs hx => ?_, fun j r hx => ?_⟩, e.trans ⟨⟨.refl _, fun a o x n => (by rw [show (Gst.mk g.Hs (g.ρ.set i (some (.own ys))) g.σ (upd g.H p (.lst vs))).Hs = g.Hs from rfl, n] at x; cases x), fun a o x n => ?_, fun a o x => ?_, fun a x => .inl (ow a x), fun _ _ => rfl, rfl⟩, rfl, Kp.set⟩⟩
  · show upd g.H p (.lst vs) a = some o
    rw [upd_ne (ne_of_none ha hn)]
    exact h.same a o ha
  · rcases get_set hd with ⟨rfl, z⟩ | ⟨ne, z⟩
    · cases z
    · exact h.val j d z
  · rcases get_set hz with ⟨rfl, z⟩ | ⟨ne, z⟩
    · cases z
      exact ⟨p, vs, h2, upd_same, dp, hn⟩
    · obtain ⟨q, us, b1, b2, b3, b4⟩ := h.own j zs z
      refine ⟨q, us, b1, ?_, b3, b4⟩
      have : q ≠ p := fun w => ne (h.sep i j p xs zs h1 z h2 (by rw [← w]; exact b1))
      show upd g.H p (.lst vs) q = _
      rw [upd_ne this]
      exact b2
  · rcases get_set hx with ⟨rfl, z⟩ | ⟨ne, z⟩
    · cases z
    · obtain ⟨q1, q2⟩ := h.nst j q its z
      refine ⟨q1, q2.mono (.refl _) (fun us k => ?_) fun r zs us m y n => ⟨?_, n⟩⟩
      · have : q ≠ p := fun y => by
          obtain ⟨us, w, m⟩ := own.there h
          rw [← y] at w
          exact m.1 _ (Option.some.inj (w.symm.trans k))
        show upd g.H p (.lst vs) q = _
        rw [upd_ne this]
        exact k
      · have : r ≠ p := fun w => ne (h.sepO i j p xs zs (.top h1 h2) (.sub z (by rw [← w]; exact m)))
        show upd g.H p (.lst vs) r = _
        rw [upd_ne this]
        exact y
  · rcases get_set hx with ⟨rfl, z⟩ | ⟨ne, z⟩
    · cases z
    · obtain ⟨q1, q2⟩ := h.exc j a dd fs z
      refine ⟨q1, q2.mono (.refl _) fun fv k => ?_⟩
      have : dd ≠ p := fun y => by
        obtain ⟨us, w, m⟩ := own.there h
        rw [← y] at w
        exact m.2.1 _ (Option.some.inj (w.symm.trans k))
      show upd g.H p (.lst vs) dd = _
      rw [upd_ne this]
      exact k
  · rcases get_set hx with ⟨rfl, z⟩ | ⟨ne, z⟩
    · cases z
    · obtain ⟨v', q1, q2⟩ := h.reg j r z
      refine ⟨v', q1, q2.mono (.refl _) fun a o m y n => ⟨?_, n⟩⟩
      have : a ≠ p := fun w => ne (h.sepO i j p xs [] (.top h1 h2) (.reg z (by rw [← w]; exact m)))
      show upd g.H p (.lst vs) a = _
      rw [upd_ne this]
      exact y
  · show upd g.H p (.lst vs) a = some o
    have : a ≠ p := fun z => n (by rw [z]; exact own)
    rw [upd_ne this]
    exact x
  · by_cases hp : a = p
    · exact ⟨_, by rw [hp]; exact upd_same⟩
    · exact ⟨o, by show upd g.H p (.lst vs) a = some o; rw [upd_ne hp]; exact x⟩

/-- the list that a slot holds as its own -/
def ownAt (ρ : Rho) (i : Nat) : Option (List D) := match ρ[i]? with
  | some (some (.own xs)) => some xs
  | _ => none
theorem ownAt_of {ρ : Rho} {i : Nat} {xs : List D} (h : ownAt ρ i = some xs) : ρ[i]? = some (some (.own xs)) := by
  unfold ownAt at h
  split at h
  · cases h; assumption
  · cases h
/-- a method that changes the list: its items, the arguments, what it becomes and hands back -/
abbrev GM := List D → List D → (List D → D → Prop) → Prop
def SemM (K : PySem.W.Frag) (r : V → List V → Hp → VK → Prop) (op : GM) : Prop := ∀ (Hs H : Hp) (p : Addr) (vs us : List V) (xs ds : List D) (P : List D → D → Prop) (Q : VK), Same Hs H → H p = some (.lst vs) → DpAll K Hs vs xs → DpAll K Hs us ds → op xs ds P →
  (∀ ys d vs' v, P ys d → DpAll K Hs vs' ys → Dp K Hs v d → Q v (upd H p (.lst vs'))) → r (.ref p) us H Q
def tMet (i : Nat) (op : GM) (t : TaD) : TeD := fun ρ P PX => onSome (ownAt ρ i) fun _ => t ρ (fun rs ρ1 => onSome (allV rs) fun ds => onSome (ownAt ρ1 i) fun xs => op xs ds (fun ys d => P (.val d) (ρ1.set i (some (.own ys))))) PX
theorem met_imp {i : Nat} {r : V → List V → Hp → VK → Prop} {op : GM} {t : TaD} (hs : SemM X.K r op) (σ : L2.St) (H : Hp) (Q : VK) (h : liftE X fx Wx (tMet i op t) σ H Q) : tBM X.K "list" r (L2.tVar i) (liftA X fx Wx t) σ H Q := by
  obtain ⟨Hs, ρ, P, PX, hr, ht, hq, hx⟩ := h
  obtain ⟨xs, hx0, ht⟩ := onSome_ex ht
  have hx0 := ownAt_of hx0
  obtain ⟨p, vs, z1, z2, z3, z4⟩ := hr.own i xs hx0
  have z1 : σ[i]? = some (some (V.ref p)) := z1
  refine ⟨.ref p, z1, .inl ⟨rfl, vs, .inl (.inl z2)⟩, Hs, ρ, _, PX, hr, ht, fun g1 us rs h1 e1 rp1 p1 => ?_, hx⟩
  obtain ⟨ds, q1, p1⟩ := onSome_ex p1
  obtain ⟨xs', q2, q3⟩ := onSome_ex p1
  have q2 := ownAt_of q2
  obtain ⟨p', vs', y1, y2, y3, y4⟩ := h1.own i xs' q2
  have y1' := y1
  rw [e1.sg] at y1
  have y1 : σ[i]? = some (some (V.ref p')) := y1
  rw [z1] at y1
  cases y1
  refine hs g1.Hs g1.H p vs' us xs' ds _ Q h1.same y2 y3 (rp1.dpa q1) q3 fun ys d ws v pq dw dv => ?_
  obtain ⟨a, b⟩ := mut_go h1 e1 q2 y1' dw
  exact hq _ v (.val d) a b dv pq
theorem pv_met (i : Nat) {x name : Str} {id : String} {r : V → List V → Hp → VK → Prop} {op : GM} {t : TaD} {px apos cpos : Pos} (pa : PlainAttrs "list") (slot : Slot "list" name id) (hty : typeOf (.builtin id) = pure (.type "method_descriptor")) (hm : MtR X id r) (hs : SemM X.K r op)
    (ha : PvA X fx Wx (e :: es) t) (hN : X.N[i]? = some x := by rfl) (hv : Vis X.env.scope x := by first | exact Or.inl rfl | exact Or.inr (Or.inl rfl) | exact Or.inr (Or.inr rfl)) (hd : (x == ("__debug__" : Str)) = false := by decide) (hcd : (x == ("__classdict__" : Str)) = false := by decide)
    (hbase : attributeBase (.Name x px) name X.env (eval (.Name x px) X.env) = eval (.Name x px) X.env := by rfl)
    (hfew : ((backTo cpos (starEach (e :: es) X.env)).all (fun x => !x.1) && (backToKw cpos (keywordEach [] X.env)).all (fun x => x.1.isSome)
      && decide ((e :: es).length + ([] : List Keyword).length + (if ([] : List Keyword).isEmpty then 0 else 1) < 30)) = true := by rfl)
    (hline : (apos.endLine == cpos.line) = true := by rfl) (hst : starEach (e :: es) X.env = (false, eval e X.env) :: starEach es X.env := by rfl) (hplain : (backTo cpos (starEach es X.env)).any (·.1) = false := by rfl) :
    Pv X fx Wx (.Call (.Attribute (.Name x px) name apos) (e :: es) [] cpos) (tMet i op t) := PE.imp (pe_bm pa slot hty hm (pe_var hN hv hd hcd) ha hbase hfew hline hst hplain) (met_imp hs)
theorem pv_met0 (i : Nat) {x name : Str} {id : String} {r : V → List V → Hp → VK → Prop} {op : GM} {px apos cpos : Pos} (pa : PlainAttrs "list") (slot : Slot "list" name id) (hty : typeOf (.builtin id) = pure (.type "method_descriptor")) (hm : MtR X id r) (hs : SemM X.K r op)
    (hN : X.N[i]? = some x := by rfl) (hv : Vis X.env.scope x := by first | exact Or.inl rfl | exact Or.inr (Or.inl rfl) | exact Or.inr (Or.inr rfl)) (hd : (x == ("__debug__" : Str)) = false := by decide) (hcd : (x == ("__classdict__" : Str)) = false := by decide)
    (hbase : attributeBase (.Name x px) name X.env (eval (.Name x px) X.env) = eval (.Name x px) X.env := by rfl) (hline : (apos.endLine == cpos.line) = true := by rfl) :
    Pv X fx Wx (.Call (.Attribute (.Name x px) name apos) [] [] cpos) (tMet i op tNilA) := by
  refine PE.imp (pe_bm0 pa slot hty hm (pe_var hN hv hd hcd) hbase hline) fun σ H Q h => ?_
  obtain ⟨x, z1, ty, h⟩ := met_imp (X := X) (fx := fx) (Wx := Wx) (t := tNilA) hs σ H Q h
  obtain ⟨Hs, ρ, P, PX, hr, ht, hq, hx⟩ := h
  exact ⟨x, z1, ty, hq ⟨Hs, ρ, σ, H⟩ [] [] hr .refl trivial ht⟩
/-- xs[k] = v -/
def tItemD (i : Nat) (tk te : TeD) : TsD := fun DD ρ => te ρ (fun r ρ1 => onSome (fz ρ1 r) fun p => onSome (ownAt p.2 i) fun _ => tk p.2 (fun rk ρ3 => onSome (asI (rd ρ3 rk)) fun k => onSome (ownAt ρ3 i) fun xs => onSome (ixN xs.length k) fun j => DD.nx (ρ3.set i (some (.own (xs.set j p.1))))) DD.ex) DD.ex
theorem pv_item (i : Nat) {x : Str} {tk te : TeD} {px tpos : Pos} (he : Pv X fx Wx e te) (hk : Pv X fx Wx a tk) (hN : X.N[i]? = some x := by rfl) (hv : Vis X.env.scope x := by first | exact Or.inl rfl | exact Or.inr (Or.inl rfl) | exact Or.inr (Or.inr rfl)) (hd : (x == ("__debug__" : Str)) = false := by decide) (hcd : (x == ("__classdict__" : Str)) = false := by decide)
    (hs : swapsWithSole [.Subscript (.Name x px) a tpos] e pos.line X.env = pure false := by rfl) (hw : swappedStores [.Subscript (.Name x px) a tpos] e X.env = pure none := by rfl) (h1 : (assignEach [.Subscript (.Name x px) a tpos] X.env).map (·.2) = [assign (.Subscript (.Name x px) a tpos) X.env] := by rfl)
    (ha : ∀ v, assign (.Subscript (.Name x px) a tpos) X.env v = (do
      let ov ← holding [v] (eval (.Name x px) X.env)
      let iv ← holding [v, ov] (eval a X.env)
      standAt tpos
      holding [v, ov, iv] (setItem ov iv v)
      release [v, ov, iv] []) := by intro _; rfl) :
    PvS X fx Wx (.Assign [.Subscript (.Name x px) a tpos] e pos) (tItemD i tk te) := by
  refine PS.imp (ps_asg he (pg_sub (pe_var (i := i) hN hv hd hcd) hk set_list ha) hs hw h1) fun D σ H h => ?_
  obtain ⟨Hs, ρ, DD, hr, ht, hq⟩ := h
  refine ⟨Hs, ρ, _, _, hr, ht, fun g1 v r h1 e1 rp p1 => ?_, hq.ex⟩
  obtain ⟨⟨d, ρ2⟩, q1, p1⟩ := onSome_ex p1
  obtain ⟨xs, q2, q3⟩ := onSome_ex p1
  have q2 := ownAt_of q2
  obtain ⟨Hs2, h2, e2, dp, kp, _⟩ := freeze e1.ext h1 rp q1
  obtain ⟨Hs1, ρ1, σ1, H1⟩ := g1
  obtain rfl : σ1 = σ := e1.sg
  obtain ⟨p, vs, z1, z2, z3, z4⟩ := h2.own i xs q2
  have z1 : σ1[i]? = some (some (V.ref p)) := z1
  refine ⟨.ref p, z1, Hs2, ρ2, _, _, h2, q3, fun g3 w rk h3 e3 rp3 p3 => ?_, hq.ex.go e2⟩
  obtain ⟨k, y1, p3⟩ := onSome_ex p3
  obtain ⟨xs', y2, p3⟩ := onSome_ex p3
  obtain ⟨j, y3, y4⟩ := onSome_ex p3
  have y2 := ownAt_of y2
  have hi := (rp3.lk h3 (asI_of y1)).int
  subst hi
  obtain ⟨p', vs', w1, w2, w3, w4⟩ := h3.own i xs' y2
  have w1' := w1
  rw [e3.sg] at w1
  have w1 : σ1[i]? = some (some (V.ref p')) := w1
  rw [z1] at w1
  cases w1
  refine ⟨p, vs', k, j, rfl, rfl, w2, by rw [dpa_len w3]; exact y3, ?_⟩
  obtain ⟨b1, b2⟩ := mut_go (g0 := g3) (fx := fx) h3 .refl y2 w1' (dpa_set j w3 (dp_mono e3.ext.same _ _ dp))
  have := hq.nx _ b1 ((e2.trans e3.ext).trans b2.ext) y4
  have sg : g3.σ = σ1 := e3.sg
  simp only [sg] at this
  exact this

/-! ### calls -/
/-- what a def promises, by data: the arguments; what it hands back and the arguments behind it; what it raises -/
abbrev SpD := List W → (W → List W → Prop) → (Xc → List W → Prop) → Prop
def W.r : W → R
  | .val d => .val d
  | .own xs => .own xs
  | .exc _ _ _ => .val .none
  | .nst p its => .nst p its
  | .reg _ => .val .none
/-- what may be handed to a def in its i-th place -/
def ArgOk (fx : List Nat) (i : Nat) : W → Prop
  | .own _ => i ∈ fx
  | .nst _ _ => False
  | .reg _ => i ∈ fx
  | _ => True
def lower (K : PySem.W.Frag) (mg : Str → Option Value) (fx : List Nat) (sp : SpD) : Sp := fun vs H Q E => ∃ (Hs : Hp) (ws : List W) (P : W → List W → Prop) (PX : Xc → List W → Prop),
  Rel K ⟨Hs, ws.map some, vs.map some, H⟩ ∧ (∀ (i : Nat) (w : W), ws[i]? = some w → ArgOk fx i w) ∧ sp ws P PX ∧
  (∀ g' v w ws', g'.ρ = ws'.map some → g'.σ = vs.map some → Rel K g' → Ext [] ⟨Hs, ws.map some, vs.map some, H⟩ g' → Rep K g' (H, fun _ => False) v w.r → P w ws' → Q v g'.H) ∧
  (∀ g' cls d x ws', g'.ρ = ws'.map some → g'.σ = vs.map some → Rel K g' → Ext [] ⟨Hs, ws.map some, vs.map some, H⟩ g' → XRep mg K g' cls d x → PX x ws' → E cls d g'.H)
/-- the arguments as the callee has them -/
def argW (ρ : Rho) : List R → Option (List W)
  | [] => some []
  | .val d :: rs => (argW ρ rs).map (.val d :: ·)
  | .var i :: rs => match ρ[i]? with
    | some (some (.nst _ _)) => none
    | some (some w) => (argW ρ rs).map (w :: ·)
    | _ => none
  | .own _ :: _ => none
  | .nst _ _ :: _ => none
def vars : List R → List Nat
  | [] => []
  | .var i :: rs => i :: vars rs
  | _ :: rs => vars rs
/-- the slots behind the call -/
def backD (ρ : Rho) : List R → List W → Rho
  | .var i :: rs, w :: ws => (backD ρ rs ws).set i (some w)
  | _ :: rs, _ :: ws => backD ρ rs ws
  | _, _ => ρ
def ndB : List Nat → Bool
  | [] => true
  | i :: is => !is.contains i && ndB is
theorem ndB_of : ∀ {is : List Nat}, ndB is = true → is.Nodup
  | [], _ => List.nodup_nil
  | i :: is, h => by
    simp only [ndB, Bool.and_eq_true, Bool.not_eq_true', List.contains_eq_mem, decide_eq_false_iff_not] at h
    exact List.nodup_cons.mpr ⟨h.1, ndB_of h.2⟩
def modes (fxf : List Nat) : Nat → List R → Bool
  | _, [] => true
  | n, .var _ :: rs => fxf.contains n && modes fxf (n + 1) rs
  | n, _ :: rs => modes fxf (n + 1) rs
theorem modes_mem {fxf : List Nat} {i : Nat} : ∀ {rs : List R} {n k : Nat}, modes fxf n rs = true → rs[k]? = some (.var i) → n + k ∈ fxf
  | [], n, k, _, h => by simp at h
  | .var j :: rs, n, 0, m, h => by
    simp only [modes, Bool.and_eq_true] at m
    simpa using m.1
  | .val _ :: rs, n, 0, m, h => by simp at h
  | .own _ :: rs, n, 0, m, h => by simp at h
  | .nst _ _ :: rs, n, 0, m, h => by simp at h
  | .var j :: rs, n, k + 1, m, h => by
    simp only [modes, Bool.and_eq_true] at m
    have := modes_mem (k := k) m.2 (by simpa using h)
    rwa [Nat.add_assoc, Nat.add_comm 1 k] at this
  | .val j :: rs, n, k + 1, m, h => by
    simp only [modes] at m
    have := modes_mem (k := k) m (by simpa using h)
    rwa [Nat.add_assoc, Nat.add_comm 1 k] at this
  | .own j :: rs, n, k + 1, m, h => by
    simp only [modes] at m
    have := modes_mem (k := k) m (by simpa using h)
    rwa [Nat.add_assoc, Nat.add_comm 1 k] at this
  | .nst _ _ :: rs, n, k + 1, m, h => by
    simp only [modes] at m
    have := modes_mem (k := k) m (by simpa using h)
    rwa [Nat.add_assoc, Nat.add_comm 1 k] at this
def tCallD (fxf : List Nat) (sp : SpD) (t : TaD) : TeD := fun ρ P PX => t ρ (fun rs ρ1 => onSome (argW ρ1 rs) fun ws => chk (ndB (vars rs) && modes fxf 0 rs) <| sp ws (fun w ws' => P w.r (backD ρ1 rs ws')) (fun x ws' => PX x (backD ρ1 rs ws'))) PX
theorem backD_length (ρ : Rho) : ∀ (rs : List R) (ws : List W), (backD ρ rs ws).length = ρ.length
  | [], _ => by unfold backD; rfl
  | .val _ :: rs, [] => by unfold backD; rfl
  | .own _ :: rs, [] => by unfold backD; rfl
  | .nst _ _ :: rs, [] => by unfold backD; rfl
  | .var _ :: rs, [] => by unfold backD; rfl
  | .val _ :: rs, _ :: ws => by unfold backD; exact backD_length ρ rs ws
  | .own _ :: rs, _ :: ws => by unfold backD; exact backD_length ρ rs ws
  | .nst _ _ :: rs, _ :: ws => by unfold backD; exact backD_length ρ rs ws
  | .var i :: rs, w :: ws => by unfold backD; rw [List.length_set]; exact backD_length ρ rs ws
theorem backD_get {ρ : Rho} {j : Nat} {w : W} : ∀ {rs : List R} {ws : List W}, rs.length = ws.length → (backD ρ rs ws)[j]? = some (some w) →
    (∃ k : Nat, rs[k]? = some (.var j) ∧ ws[k]? = some w) ∨ ((∀ k : Nat, rs[k]? ≠ some (.var j)) ∧ ρ[j]? = some (some w))
  | [], [], _, h => .inr ⟨by simp, by unfold backD at h; exact h⟩
  | [], _ :: _, e, _ => by simp at e
  | _ :: _, [], e, _ => by simp at e
  | .val d :: rs, _ :: ws, e, h => by
    unfold backD at h
    rcases backD_get (rs := rs) (ws := ws) (by simpa using e) h with ⟨k, h1, h2⟩ | ⟨h1, h2⟩
    · exact .inl ⟨k + 1, by simpa using h1, by simpa using h2⟩
    · refine .inr ⟨fun k => ?_, h2⟩
      cases k with
      | zero => simp
      | succ k => simpa using h1 k
  | .own d :: rs, _ :: ws, e, h => by
    unfold backD at h
    rcases backD_get (rs := rs) (ws := ws) (by simpa using e) h with ⟨k, h1, h2⟩ | ⟨h1, h2⟩
    · exact .inl ⟨k + 1, by simpa using h1, by simpa using h2⟩
    · refine .inr ⟨fun k => ?_, h2⟩
      cases k with
      | zero => simp
      | succ k => simpa using h1 k
  | .nst _ _ :: rs, _ :: ws, e, h => by
    unfold backD at h
    rcases backD_get (rs := rs) (ws := ws) (by simpa using e) h with ⟨k, h1, h2⟩ | ⟨h1, h2⟩
    · exact .inl ⟨k + 1, by simpa using h1, by simpa using h2⟩
    · refine .inr ⟨fun k => ?_, h2⟩
      cases k with
      | zero => simp
      | succ k => simpa using h1 k
  | .var i :: rs, w' :: ws, e, h => by
    unfold backD at h
    rcases get_set h with ⟨rfl, z⟩ | ⟨ne, z⟩
    · cases z
      exact .inl ⟨0, by simp, by simp⟩
    · rcases backD_get (rs := rs) (ws := ws) (by simpa using e) z with ⟨k, h1, h2⟩ | ⟨h1, h2⟩
      · exact .inl ⟨k + 1, by simpa using h1, by simpa using h2⟩
      · refine .inr ⟨fun k => ?_, h2⟩
        cases k with
        | zero => simp; exact ne
        | succ k => simpa using h1 k
theorem backD_kp {ρ : Rho} : ∀ {rs : List R} {ws : List W}, Kp ρ (backD ρ rs ws)
  | [], _ => by unfold backD; exact .refl
  | .val _ :: rs, [] => by unfold backD; exact .refl
  | .own _ :: rs, [] => by unfold backD; exact .refl
  | .nst _ _ :: rs, [] => by unfold backD; exact .refl
  | .var _ :: rs, [] => by unfold backD; exact .refl
  | .val _ :: rs, _ :: ws => by unfold backD; exact backD_kp
  | .own _ :: rs, _ :: ws => by unfold backD; exact backD_kp
  | .nst _ _ :: rs, _ :: ws => by unfold backD; exact backD_kp
  | .var i :: rs, w :: ws => by unfold backD; exact (backD_kp (rs := rs) (ws := ws)).trans .set
theorem vars_mem {i : Nat} : ∀ {rs : List R} {k : Nat}, rs[k]? = some (.var i) → i ∈ vars rs
  | [], k, h => by simp at h
  | .var j :: rs, 0, h => by simp at h; subst h; simp [vars]
  | .val _ :: rs, 0, h => by simp at h
  | .own _ :: rs, 0, h => by simp at h
  | .nst _ _ :: rs, 0, h => by simp at h
  | .var j :: rs, k + 1, h => by simp only [vars, List.mem_cons]; exact .inr (vars_mem (by simpa using h))
  | .val j :: rs, k + 1, h => by simp only [vars]; exact vars_mem (by simpa using h)
  | .own j :: rs, k + 1, h => by simp only [vars]; exact vars_mem (by simpa using h)
  | .nst _ _ :: rs, k + 1, h => by simp only [vars]; exact vars_mem (by simpa using h)
theorem vars_inj {i : Nat} : ∀ {rs : List R} {k l : Nat}, (vars rs).Nodup → rs[k]? = some (.var i) → rs[l]? = some (.var i) → k = l
  | [], k, l, _, h, _ => by simp at h
  | r :: rs, 0, 0, _, _, _ => rfl
  | r :: rs, 0, l + 1, n, h1, h2 => by
    simp at h1; subst h1
    simp only [vars, List.nodup_cons] at n
    exact absurd (vars_mem (by simpa using h2)) n.1
  | r :: rs, k + 1, 0, n, h1, h2 => by
    simp at h2; subst h2
    simp only [vars, List.nodup_cons] at n
    exact absurd (vars_mem (by simpa using h1)) n.1
  | r :: rs, k + 1, l + 1, n, h1, h2 => by
    have n' : (vars rs).Nodup := by
      cases r with
      | var j => simp only [vars, List.nodup_cons] at n; exact n.2
      | val _ => exact n
      | own _ => exact n
      | nst _ _ => exact n
    exact congrArg Nat.succ (vars_inj (k := k) (l := l) n' (by simpa using h1) (by simpa using h2))
theorem argW_len {ρ : Rho} : ∀ {rs : List R} {ws : List W}, argW ρ rs = some ws → rs.length = ws.length
  | [], _, h => by cases h; rfl
  | .val d :: rs, ws, h => by
    simp only [argW, Option.map_eq_some_iff] at h
    obtain ⟨ws', h1, rfl⟩ := h
    simp [argW_len h1]
  | .own d :: rs, ws, h => by cases h
  | .nst _ _ :: rs, ws, h => by cases h
  | .var i :: rs, ws, h => by
    simp only [argW] at h
    split at h
    · cases h
    · simp only [Option.map_eq_some_iff] at h
      obtain ⟨ws', h1, rfl⟩ := h
      simp [argW_len h1]
    · cases h
/-- an argument: made data, or what a slot holds -/
theorem argW_get {ρ : Rho} {w : W} : ∀ {rs : List R} {ws : List W} {k : Nat}, argW ρ rs = some ws → ws[k]? = some w → (∃ d, w = .val d ∧ rs[k]? = some (.val d)) ∨ ∃ i, rs[k]? = some (.var i) ∧ ρ[i]? = some (some w)
  | .nst _ _ :: rs, ws, k, h, q => by cases h
  | [], _, k, h, q => by cases h; simp at q
  | .val d :: rs, ws, k, h, q => by
    simp only [argW, Option.map_eq_some_iff] at h
    obtain ⟨ws', h1, rfl⟩ := h
    cases k with
    | zero => simp at q; subst q; exact .inl ⟨d, rfl, by simp⟩
    | succ k => simpa using argW_get h1 (k := k) (by simpa using q)
  | .own d :: rs, ws, k, h, q => by cases h
  | .var i :: rs, ws, k, h, q => by
    simp only [argW] at h
    split at h
    · cases h
    · rename_i w' _ hw
      simp only [Option.map_eq_some_iff] at h
      obtain ⟨ws', h1, rfl⟩ := h
      cases k with
      | zero => simp at q; subst q; exact .inr ⟨i, by simp, hw⟩
      | succ k => simpa using argW_get h1 (k := k) (by simpa using q)
    · cases h
theorem argW_no {ρ : Rho} {p : Addr} {its : List (D ⊕ (Addr × List D))} : ∀ {rs : List R} {ws : List W} {k : Nat}, argW ρ rs = some ws → ws[k]? ≠ some (.nst p its)
  | [], _, k, h, q => by cases h; simp at q
  | .val d :: rs, ws, k, h, q => by
    simp only [argW, Option.map_eq_some_iff] at h
    obtain ⟨ws', h1, rfl⟩ := h
    cases k with
    | zero => simp at q
    | succ k => exact argW_no h1 (k := k) (by simpa using q)
  | .own d :: rs, ws, k, h, q => by cases h
  | .nst _ _ :: rs, ws, k, h, q => by cases h
  | .var i :: rs, ws, k, h, q => by
    simp only [argW] at h
    split at h
    · cases h
    · rename_i w' hn hw
      simp only [Option.map_eq_some_iff] at h
      obtain ⟨ws', h1, rfl⟩ := h
      cases k with
      | zero => simp at q; subst q; exact hn _ _ rfl
      | succ k => exact argW_no h1 (k := k) (by simpa using q)
    · cases h
theorem owns_map {ws : List W} {vs : List V} {k : Nat} {a : Addr} {xs : List D} (n : ∀ p its, ws[k]? ≠ some (.nst p its)) (o : Owns (ws.map some) (vs.map some) k a xs) : ((ws.map some)[k]? = some (some (W.own xs)) ∧ (vs.map some)[k]? = some (some (V.ref a))) ∨ ∃ r, (ws.map some)[k]? = some (some (W.reg r)) ∧ r.ads a := by
  cases o with
  | top h1 h2 => exact .inl ⟨h1, h2⟩
  | reg h1 h2 => exact .inr ⟨_, h1, h2⟩
  | sub h1 h2 => 
    rw [List.getElem?_map] at h1
    cases q : ws[k]? with
    | none => rw [q] at h1; cases h1
    | some w =>
      rw [q] at h1
      cases h1
      exact absurd q (n _ _)
theorem RepAll.get {K : PySem.W.Frag} {g : Gst} {H0 : Bg} : ∀ {vs : List V} {rs : List R} {k : Nat} {r : R}, RepAll K g H0 vs rs → rs[k]? = some r → ∃ v, vs[k]? = some v ∧ Rep K g H0 v r
  | [], [], k, r, _, e => by simp at e
  | v :: vs, r' :: rs, 0, r, h, e => by simp at e; subst e; exact ⟨v, by simp, h.1⟩
  | v :: vs, r' :: rs, k + 1, r, h, e => by
    obtain ⟨v', h1, h2⟩ := RepAll.get (k := k) h.2 (by simpa using e)
    exact ⟨v', by simpa using h1, h2⟩
  | [], _ :: _, _, _, h, _ => h.elim
  | _ :: _, [], _, _, h, _ => h.elim
theorem RepAll.len {K : PySem.W.Frag} {g : Gst} {H0 : Bg} : ∀ {vs : List V} {rs : List R}, RepAll K g H0 vs rs → vs.length = rs.length
  | [], [], _ => rfl
  | v :: vs, r' :: rs, h => by rw [List.length_cons, List.length_cons, RepAll.len h.2]
  | [], _ :: _, h => h.elim
  | _ :: _, [], h => h.elim
theorem map_some_get {α : Type} {l : List α} {i : Nat} {x : α} : (l.map some)[i]? = some (some x) ↔ l[i]? = some x := by
  rw [List.getElem?_map]
  cases l[i]? with
  | none => simp
  | some y => simp
/-- from the caller's state to the callee's -/
theorem rel_args {g : Gst} {H0 : Bg} {vs : List V} {rs : List R} {ws : List W} (h : Rel X.K g) (rp : RepAll X.K g H0 vs rs) (ha : argW g.ρ rs = some ws) (nd : (vars rs).Nodup) :
    Rel X.K ⟨g.Hs, ws.map some, vs.map some, g.H⟩ ∧ (∀ (k i : Nat) (p : Addr) (xs : List D), rs[k]? = some (.var i) → ws[k]? = some (.own xs) → vs[k]? = some (.ref p) → g.ρ[i]? = some (some (.own xs)) ∧ g.σ[i]? = some (some (.ref p))) := by
  have l1 := rp.len
  have l2 := argW_len ha
  have key : ∀ (k : Nat) (xs : List D), ws[k]? = some (.own xs) → ∃ (i : Nat) (p : Addr) (us : List V), rs[k]? = some (.var i) ∧ vs[k]? = some (.ref p) ∧ g.ρ[i]? = some (some (.own xs)) ∧ g.σ[i]? = some (some (.ref p)) ∧ g.H p = some (.lst us) ∧ DpAll X.K g.Hs us xs ∧ g.Hs p = none := fun k xs z => by
    rcases argW_get ha z with ⟨d, z1, _⟩ | ⟨i, z1, z2⟩
    · cases z1
    · obtain ⟨v, y1, y2, _⟩ := rp.get z1
      obtain ⟨p, us, x1, x2, x3, x4⟩ := h.own i xs z2
      rw [y2] at x1
      cases x1
      exact ⟨i, p, us, z1, y1, z2, y2, x2, x3, x4⟩
  have keyO : ∀ (k : Nat) (p : Addr) (xs : List D), Owns (ws.map some) (vs.map some) k p xs → ∃ (i : Nat), rs[k]? = some (.var i) ∧ Owns g.ρ g.σ i p xs := fun k p xs o => by
    rcases owns_map (fun _ _ => argW_no ha) o with ⟨a1, a3⟩ | ⟨r, a1, a3⟩
    · obtain ⟨i, p1, us, b1, b2, b3, b4, b5, b6, b7⟩ := key k xs (map_some_get.mp a1)
      have a3 := map_some_get.mp a3
      rw [b2] at a3
      cases a3
      exact ⟨i, b1, .top b3 b4⟩
    · rcases argW_get ha (map_some_get.mp a1) with ⟨d, z1, _⟩ | ⟨i, z1, z2⟩
      · cases z1
      · exact ⟨i, z1, .reg z2 a3⟩
  refine ⟨⟨by simp; omega, h.same, fun k d hd => ?_, fun k xs hx => ?_, fun k l p xs ys a1 a2 => ?_, fun k p its hx => absurd (map_some_get.mp hx) (argW_no ha), fun k a dd fs hx => ?_, fun k r hx => ?_⟩, fun k i p xs h1 h2 h3 => ?_⟩
  · have hd := map_some_get.mp hd
    rcases argW_get ha hd with ⟨d', z1, z2⟩ | ⟨i, z1, z2⟩
    · cases z1
      obtain ⟨v, y1, y2⟩ := rp.get z2
      exact ⟨v, map_some_get.mpr y1, y2⟩
    · obtain ⟨v, y1, y2, _⟩ := rp.get z1
      obtain ⟨v', x1, x2⟩ := h.val i d z2
      rw [y2] at x1
      cases x1
      exact ⟨v, map_some_get.mpr y1, x2⟩
  · obtain ⟨i, p, us, b1, b2, b3, b4, b5, b6, b7⟩ := key k xs (map_some_get.mp hx)
    exact ⟨p, us, map_some_get.mpr b2, b5, b6, b7⟩
  · obtain ⟨i, b1, b2⟩ := keyO k p xs a1
    obtain ⟨j, c1, c2⟩ := keyO l p ys a2
    have := h.sepO i j p xs ys b2 c2
    subst this
    exact vars_inj nd b1 c1
  · rcases argW_get ha (map_some_get.mp hx) with ⟨d, z1, _⟩ | ⟨i, z1, z2⟩
    · cases z1
    · obtain ⟨v, y1, y2, _⟩ := rp.get z1
      obtain ⟨q1, q2⟩ := h.exc i a dd fs z2
      rw [y2] at q1
      cases q1
      exact ⟨map_some_get.mpr y1, q2⟩
  · rcases argW_get ha (map_some_get.mp hx) with ⟨d, z1, _⟩ | ⟨i, z1, z2⟩
    · cases z1
    · obtain ⟨v, y1, y2, _⟩ := rp.get z1
      obtain ⟨v', q1, q2⟩ := h.reg i r z2
      rw [y2] at q1
      cases q1
      exact ⟨v, map_some_get.mpr y1, q2⟩
  · obtain ⟨i', p1, us, b1, b2, b3, b4, b5, b6, b7⟩ := key k xs h2
    rw [h1] at b1
    cases b1
    rw [h3] at b2
    cases b2
    exact ⟨b3, b4⟩
/-- and back -/
theorem rel_back {g g' : Gst} {H0 : Bg} {vs : List V} {rs : List R} {ws ws' : List W} (h : Rel X.K g) (rp : RepAll X.K g H0 vs rs) (ha : argW g.ρ rs = some ws) (nd : (vars rs).Nodup) (hρ : g'.ρ = ws'.map some) (hσ : g'.σ = vs.map some) (h' : Rel X.K g')
    (e : Ext [] ⟨g.Hs, ws.map some, vs.map some, g.H⟩ g') : Rel X.K ⟨g'.Hs, backD g.ρ rs ws', g.σ, g'.H⟩ ∧ GoE fx g ⟨g'.Hs, backD g.ρ rs ws', g.σ, g'.H⟩ ∧ ∀ a, OwnAt (backD g.ρ rs ws') g.σ a → OwnAt g'.ρ g'.σ a ∨ ∃ o, g.H a = some o := by
  obtain ⟨hra, hav⟩ := rel_args h rp ha nd
  obtain ⟨Hs', ρ', σ', H'⟩ := g'
  obtain rfl : ρ' = ws'.map some := hρ
  obtain rfl : σ' = vs.map some := hσ
  have l1 := rp.len
  have l2 := argW_len ha
  have l3 : rs.length = ws'.length := by
    have := h'.len
    simp only [List.length_map] at this
    omega
  -- an argument's own list is a slot's
  have oa : ∀ a, OwnAt (ws.map some) (vs.map some) a → ∃ (k i : Nat) (xs : List D), rs[k]? = some (.var i) ∧ Owns g.ρ g.σ i a xs := fun a ⟨k, xs, z⟩ => by
    rcases owns_map (fun _ _ => argW_no ha) z with ⟨z1, z2⟩ | ⟨r, z1, z2⟩
    · have z1 := map_some_get.mp z1
      have z2 := map_some_get.mp z2
      rcases argW_get ha z1 with ⟨d, y1, _⟩ | ⟨i, y1, y2⟩
      · cases y1
      · exact ⟨k, i, xs, y1, .top y2 (hav k i a xs y1 z1 z2).2⟩
    · rcases argW_get ha (map_some_get.mp z1) with ⟨d, y1, _⟩ | ⟨i, y1, y2⟩
      · cases y1
      · exact ⟨k, i, xs, y1, .reg y2 z2⟩
  have oa' : ∀ a, OwnAt (ws.map some) (vs.map some) a → OwnAt g.ρ g.σ a := fun a z => let ⟨_, i, xs, _, z2⟩ := oa a z; ⟨i, xs, z2⟩
  -- a slot's own list that is no argument is no argument's
  have na : ∀ (j : Nat) (p : Addr) (xs : List D), (∀ k : Nat, rs[k]? ≠ some (.var j)) → Owns g.ρ g.σ j p xs → ¬ OwnAt (ws.map some) (vs.map some) p := fun j p xs n z1 z => by
    obtain ⟨k, i, ys, y1, y2⟩ := oa p z
    have := h.sepO i j p ys xs y2 z1
    subst this
    exact n k y1
  have va : ∀ (k i : Nat) (v : V), rs[k]? = some (.var i) → vs[k]? = some v → g.σ[i]? = some (some v) := fun k i v z1 z2 => by
    obtain ⟨v', y1, y2, _⟩ := rp.get z1
    rw [z2] at y1
    cases y1
    exact y2
  have bk : ∀ (j : Nat) (a : Addr) (xs : List D), Owns (backD g.ρ rs ws') g.σ j a xs → (∃ k : Nat, rs[k]? = some (.var j) ∧ Owns (ws'.map some) (vs.map some) k a xs) ∨ ((∀ k : Nat, rs[k]? ≠ some (.var j)) ∧ Owns g.ρ g.σ j a xs) := fun j a xs o => by
    cases o with
    | top z1 z2 =>
      rcases backD_get l3 z1 with ⟨k, y1, y2⟩ | ⟨y1, y2⟩
      · left
        obtain ⟨v, x1, x2, _⟩ := rp.get y1
        rw [z2] at x2
        cases x2
        exact ⟨k, y1, .top (map_some_get.mpr y2) (map_some_get.mpr x1)⟩
      · exact .inr ⟨y1, .top y2 z2⟩
    | sub z1 z2 =>
      rcases backD_get l3 z1 with ⟨k, y1, y2⟩ | ⟨y1, y2⟩
      · exact .inl ⟨k, y1, .sub (map_some_get.mpr y2) z2⟩
      · exact .inr ⟨y1, .sub y2 z2⟩
    | reg z1 z2 =>
      rcases backD_get l3 z1 with ⟨k, y1, y2⟩ | ⟨y1, y2⟩
      · exact .inl ⟨k, y1, .reg (map_some_get.mpr y2) z2⟩
      · exact .inr ⟨y1, .reg y2 z2⟩
  have own' : ∀ a, OwnAt (backD g.ρ rs ws') g.σ a → OwnAt (ws'.map some) (vs.map some) a ∨ ((¬ OwnAt (ws.map some) (vs.map some) a) ∧ OwnAt g.ρ g.σ a) := fun a ⟨j, xs, z⟩ => by
    rcases bk j a xs z with ⟨k, y1, y2⟩ | ⟨y1, y2⟩
    · exact .inl ⟨k, xs, y2⟩
    · exact .inr ⟨na j a xs y1 y2, j, xs, y2⟩
  have one : ∀ (k j : Nat) (p : Addr) (xs ys : List D), Owns (ws'.map some) (vs.map some) k p xs → (∀ k : Nat, rs[k]? ≠ some (.var j)) → Owns g.ρ g.σ j p ys → False := fun k j p xs ys o n o' => by
    obtain ⟨us, b, _⟩ := OwnAt.there h ⟨j, ys, o'⟩
    rcases e.own p ⟨k, xs, o⟩ with z | z
    · exact na j p ys n o' z
    · rw [show (Gst.mk g.Hs (ws.map some) (vs.map some) g.H).H p = g.H p from rfl, b] at z
      cases z
  refine ⟨⟨by rw [backD_length]; exact h.len, h'.same, fun j d hd => ?_, fun j xs hx => ?_, fun j j' p xs ys a1 a2 => ?_, fun j p its hx => ?_, fun j a dd fs hx => ?_, fun j r hx => ?_⟩, ⟨⟨e.same, fun a o x n => (e.new a o x n).imp id (fun z => z.imp (fun y => ⟨oa' a y.1, y.2⟩) id), fun a o x n => e.frame a o x fun z => n (oa' a z), e.dom, fun a x => ?_, fun _ _ => rfl, rfl⟩, rfl, backD_kp⟩, fun a x => ?_⟩
  · rcases backD_get l3 hd with ⟨k, y1, y2⟩ | ⟨y1, y2⟩
    · obtain ⟨v, x1, x2⟩ := h'.val k d (map_some_get.mpr y2)
      exact ⟨v, va k j v y1 (map_some_get.mp x1), x2⟩
    · obtain ⟨v, x1, x2⟩ := h.val j d y2
      exact ⟨v, x1, dp_mono e.same _ _ x2⟩
  · rcases backD_get l3 hx with ⟨k, y1, y2⟩ | ⟨y1, y2⟩
    · obtain ⟨p, us, x1, x2, x3, x4⟩ := h'.own k xs (map_some_get.mpr y2)
      exact ⟨p, us, va k j _ y1 (map_some_get.mp x1), x2, x3, x4⟩
    · obtain ⟨p, us, x1, x2, x3, x4⟩ := h.own j xs y2
      obtain ⟨b1, b2, b3, b4⟩ := tmp_keep (X := X) e x2 x3 x4 (na j p xs y1 (.top y2 x1))
      exact ⟨p, us, x1, b1, b2, b3⟩
  · rcases bk j p xs a1 with ⟨k, y1, y2⟩ | ⟨y1, y2⟩
    · rcases bk j' p ys a2 with ⟨k', w1, w2⟩ | ⟨w1, w2⟩
      · have := h'.sepO k k' p xs ys y2 w2
        subst this
        rw [y1] at w1
        cases w1
        rfl
      · exact (one k j' p xs ys y2 w1 w2).elim
    · rcases bk j' p ys a2 with ⟨k', w1, w2⟩ | ⟨w1, w2⟩
      · exact (one k' j p ys xs w2 y1 y2).elim
      · exact h.sepO j j' p xs ys y2 w2
  · rcases backD_get l3 hx with ⟨k, y1, y2⟩ | ⟨y1, y2⟩
    · obtain ⟨q1, q2⟩ := h'.nst k p its (map_some_get.mpr y2)
      exact ⟨va k j _ y1 (map_some_get.mp q1), q2⟩
    · obtain ⟨q1, q2⟩ := h.nst j p its y2
      refine ⟨q1, NstAt.keep (g := ⟨g.Hs, ws.map some, vs.map some, g.H⟩) (g' := ⟨Hs', ws'.map some, vs.map some, H'⟩) e (fun q hq => ?_) q2⟩
      rcases List.mem_cons.mp hq with rfl | m
      · intro z
        obtain ⟨us, w, m⟩ := (oa' _ z).there h
        obtain ⟨⟨vs', t, _⟩, _⟩ := q2
        exact m.1 _ (Option.some.inj (w.symm.trans t))
      · obtain ⟨xs, m⟩ := ads_mem.mp m
        exact na j q xs y1 (.sub y2 m)
  · rcases backD_get l3 hx with ⟨k, y1, y2⟩ | ⟨y1, y2⟩
    · obtain ⟨q1, q2⟩ := h'.exc k a dd fs (map_some_get.mpr y2)
      exact ⟨va k j _ y1 (map_some_get.mp q1), q2⟩
    · obtain ⟨q1, q2⟩ := h.exc j a dd fs y2
      exact ⟨q1, q2.mono e.same fun fv k => e.frame dd _ k fun z => let ⟨_, w, m⟩ := (oa' _ z).there h; m.2.1 _ (Option.some.inj (w.symm.trans k))⟩
  · rcases backD_get l3 hx with ⟨k, y1, y2⟩ | ⟨y1, y2⟩
    · obtain ⟨v, q1, q2⟩ := h'.reg k r (map_some_get.mpr y2)
      exact ⟨v, va k j _ y1 (map_some_get.mp q1), q2⟩
    · obtain ⟨v, q1, q2⟩ := h.reg j r y2
      refine ⟨v, q1, q2.mono e.same fun a o m y w => ?_⟩
      have no := na j a [] y1 (.reg y2 m)
      obtain ⟨o1, y1', mu⟩ := r.there q2.1 m
      have : o1 = o := Option.some.inj (y1'.symm.trans y)
      exact ⟨e.frame a o y no, e.hs_none y w no (this ▸ mu)⟩
  · rcases own' a x with z | z
    · exact (e.own a z).imp (oa' a) id
    · exact .inl z.2
  · rcases own' a x with z | z
    · exact .inl z
    · obtain ⟨us, q, _⟩ := z.2.there h
      exact .inr ⟨_, q⟩
theorem args_ok {ρ : Rho} {rs : List R} {ws : List W} {fxf : List Nat} (q1 : argW ρ rs = some ws) (hm : modes fxf 0 rs = true) (i : Nat) (w : W) (z : ws[i]? = some w) : ArgOk fxf i w := by
  cases w with
  | val d => trivial
  | exc _ _ _ => trivial
  | nst p its => exact absurd z (argW_no q1)
  | reg r =>
    rcases argW_get q1 z with ⟨d, y1, _⟩ | ⟨j, y1, y2⟩
    · cases y1
    · have := modes_mem hm y1
      rwa [Nat.zero_add] at this
  | own xs =>
    rcases argW_get q1 z with ⟨d, y1, _⟩ | ⟨j, y1, y2⟩
    · cases y1
    · have := modes_mem hm y1
      rwa [Nat.zero_add] at this
theorem takes0N {X : Cx} : L2N.Takes X W0 := fun _ _ ⟨_, _, _, _, _, _, _, _, _, _, _, _, _, _, _, _, w⟩ => w.elim
theorem call_imp {sp : SpD} {t : TaD} {fxf : List Nat} (σ : L2.St) (H : Hp) (Q : VK) (h : liftE X fx Wx (tCallD fxf sp t) σ H Q) : tCallS (lower X.K X.mg fxf sp) (WE Wx) (liftA X fx Wx t) σ H Q := by
  obtain ⟨Hs, ρ, P, PX, hr, ht, hq, hx⟩ := h
  refine ⟨Hs, ρ, _, PX, hr, ht, fun g1 vs rs h1 e1 rp1 p1 => ?_, hx⟩
  obtain ⟨ws, q1, p1⟩ := onSome_ex p1
  obtain ⟨q2, q3⟩ := chk_and p1
  rw [Bool.and_eq_true] at q2
  obtain ⟨q2, hm⟩ := q2
  have q2 := ndB_of q2
  obtain ⟨hra, hav⟩ := rel_args h1 rp1 q1 q2
  refine ⟨g1.Hs, ws, _, _, hra, args_ok q1 hm, q3, fun g' v w ws' hρ hσ h' e' rp' pw => ?_, fun g' cls d x ws' hρ hσ h' e' xr px => ?_⟩
  · obtain ⟨a, b, c⟩ := rel_back (fx := fx) h1 rp1 q1 q2 hρ hσ h' e'
    refine hq ⟨g'.Hs, backD g1.ρ rs ws', g1.σ, g'.H⟩ v w.r a (e1.trans b) ?_ pw
    refine Rep.back e1.ext (g' := ⟨g'.Hs, backD g1.ρ rs ws', g1.σ, g'.H⟩) ?_
    cases w with
    | val d => exact rp'
    | exc _ _ _ => exact rp'
    | reg _ => exact rp'
    | own xs =>
      obtain ⟨p, us, z1, z2, z3, z4, z5, z6⟩ := rp'
      refine ⟨p, us, z1, z2, z3, z4, fun z => ?_, .inl (z6.elim id False.elim)⟩
      rcases c p z with y | ⟨o, y⟩
      · exact z5 y
      · have z6 : g1.H p = none := z6.elim id False.elim
        rw [z6] at y
        cases y
    | nst p its =>
      obtain ⟨z1, z2, z3, z4⟩ := rp'
      have z4 : ∀ q ∈ ads its, g1.H q = none := fun q m => (z4 q m).elim id False.elim
      refine ⟨z1, z2, fun q hq z => ?_, fun q m => .inl (z4 q m)⟩
      rcases List.mem_cons.mp hq with rfl | m
      · obtain ⟨us, w, m⟩ := OwnAt.there a z
        obtain ⟨⟨vs', t, _⟩, _⟩ := z2
        have w : g'.H q = some us := w
        exact m.1 _ (Option.some.inj (w.symm.trans t))
      · rcases c q z with y | ⟨o, y⟩
        · exact z3 q hq y
        · rw [z4 q m] at y
          cases y
  · obtain ⟨a, b, c⟩ := rel_back (fx := fx) h1 rp1 q1 q2 hρ hσ h' e'
    have := hx ⟨g'.Hs, backD g1.ρ rs ws', g1.σ, g'.H⟩ cls d x a (e1.trans b).ext xr px
    have sg : g1.σ = σ := e1.sg
    simp only [sg] at this
    exact this

theorem pv_call {k : Nat} {f : Addr} {fd : FuncData} {ps : List Str} {sp : SpD} {x : Str} {p : Pos} {t : TaD} {fxf : List Nat} (F : FnOk X.prog X.w X.K X.mg X.base (L2N.CX X.prog X.w) k f fd ps (lower X.K X.mg fxf sp)) (hr : Room k X.A) (hg : Gl X x) (hm : X.mg x = some (.ref f)) (hk : PySem.W.keepIn X.K (.ref f) = true) (hb : Binds X.K fd ps [])
    (tk : L2N.Takes X Wx) (ha : PvA X fx Wx (e :: es) t) (hdb : (x == ("__debug__" : Str)) = false := by decide)
    (he : starEach (e :: es) X.env = (false, eval e X.env) :: starEach es X.env := by rfl) (hpl : (backTo pos (starEach es X.env)).any (·.1) = false := by rfl) : Pv X fx Wx (.Call (.Name x p) (e :: es) [] pos) (tCallD fxf sp t) :=
  PE.imp (pe_callS F hr hg hm hk hb (fun σ => L2N.passAt tk σ) ha hdb he hpl) call_imp

/-! ### defs -/
/-- the arguments' slots at the end: of the fixed ones what they hold, the others as they came -/
def outs (fx : List Nat) (ρ : Rho) : Nat → List W → List W
  | _, [] => []
  | i, w :: ws => (if i ∈ fx then (match ρ[i]? with
    | some (some w') => w'
    | _ => w) else w) :: outs fx ρ (i + 1) ws
/-- a slot's own list is handed out only where it is no argument's -/
def isS : Option (Option W) → Bool
  | some (some _) => true
  | _ => false
def isO : Option (Option W) → Bool
  | some (some (.own _)) => true
  | _ => false
theorem isS_of {o : Option (Option W)} (h : isS o = true) : ∃ w, o = some (some w) := by
  unfold isS at h
  split at h
  · exact ⟨_, rfl⟩
  · cases h
theorem isO_of {o : Option (Option W)} (h : isO o = true) : ∃ w, o = some (some (.own w)) := by
  unfold isO at h
  split at h
  · exact ⟨_, rfl⟩
  · cases h
def notO : Option W → Bool
  | some (.own _) => false
  | _ => true
theorem isO_or {o : Option (Option W)} {w : Option W} {zs : List D} (h : (isO o || notO w) = true) (z : w = some (.own zs)) : ∃ ys, o = some (some (.own ys)) := by
  subst z
  exact isO_of (by simpa [notO] using h)
def noR : W → Bool
  | .reg _ => false
  | _ => true
theorem noR_all {ws : List W} {j : Nat} {r : Reg} (h : ws.all noR = true) : ws[j]? ≠ some (.reg r) := fun z => by
  have := List.all_eq_true.mp h _ (List.mem_of_getElem? z)
  cases this
def retP (fx : List Nat) (ws : List W) (P : W → List W → Prop) : PostE := fun r ρ => chk (fx.all fun i => isS ρ[i]?) <| match r with
  | .val d => P (.val d) (outs fx ρ 0 ws)
  | .own xs => chk (ws.all noR && fx.all fun j => isO ρ[j]? || notO ws[j]?) <| P (.own xs) (outs fx ρ 0 ws)
  | .var i => match ρ[i]? with
    | some (some (.val d)) => P (.val d) (outs fx ρ 0 ws)
    | some (some (.own xs)) => chk (ws.all noR && !fx.contains i && fx.all fun j => isO ρ[j]?) <| P (.own xs) (outs fx ρ 0 ws)
    | some (some (.nst p its)) => chk (ws.all noR && !fx.contains i && fx.all fun j => isO ρ[j]?) <| P (.nst p its) (outs fx ρ 0 ws)
    | _ => False
  | .nst p its => chk (ws.all noR && fx.all fun j => isO ρ[j]? || notO ws[j]?) <| P (.nst p its) (outs fx ρ 0 ws)
def endsOf (fx : List Nat) (ws : List W) (P : W → List W → Prop) (PX : Xc → List W → Prop) : EndsD where
  nx := fun ρ => retP fx ws P (.val .none) ρ
  rt := retP fx ws P
  ex := fun x ρ => chk (fx.all fun i => isS ρ[i]?) <| PX x (outs fx ρ 0 ws)
def startD (N : List Str) (ws : List W) : Rho := ws.map some ++ List.replicate (N.length - ws.length) none
theorem outs_length {fx : List Nat} {ρ : Rho} : ∀ {i : Nat} {ws : List W}, (outs fx ρ i ws).length = ws.length
  | _, [] => rfl
  | i, w :: ws => by unfold outs; rw [List.length_cons, List.length_cons, outs_length]
theorem outs_get {fx : List Nat} {ρ : Rho} : ∀ {i : Nat} {ws : List W} {k : Nat} {w : W}, (outs fx ρ i ws)[k]? = some w → (i + k ∈ fx ∧ ((ρ[i + k]? = some (some w)) ∨ (ws[k]? = some w ∧ ∀ w', ρ[i + k]? ≠ some (some w')))) ∨ (i + k ∉ fx ∧ ws[k]? = some w)
  | _, [], k, w, h => by simp [outs] at h
  | i, w :: ws, 0, w', h => by
    simp only [outs, List.getElem?_cons_zero, Option.some.injEq] at h
    by_cases hi : i ∈ fx
    · rw [if_pos hi] at h
      left
      refine ⟨hi, ?_⟩
      split at h
      · rename_i w2 hw
        subst h
        exact .inl hw
      · rename_i hw
        subst h
        exact .inr ⟨by simp, fun w2 z => hw w2 z⟩
    · rw [if_neg hi] at h
      subst h
      exact .inr ⟨hi, by simp⟩
  | i, w :: ws, k + 1, w', h => by
    simp only [outs, List.getElem?_cons_succ] at h
    have := outs_get (i := i + 1) h
    rw [Nat.add_assoc, Nat.add_comm 1 k] at this
    simpa using this
section
variable {K : PySem.W.Frag} {fx : List Nat} {N : List Str}
theorem startD_get {ws : List W} {i : Nat} {w : W} : (startD N ws)[i]? = some (some w) ↔ ws[i]? = some w := by
  unfold startD
  by_cases h : i < ws.length
  · rw [List.getElem?_append_left (by simpa using h)]
    exact map_some_get
  · rw [List.getElem?_append_right (by simpa using h)]
    constructor
    · intro z
      have := List.mem_of_getElem? z
      simp at this
    · intro z
      have := (List.getElem?_eq_some_iff.mp z).1
      omega
theorem start_get {vs : List V} {i : Nat} {v : V} : (L2.start N vs)[i]? = some (some v) ↔ vs[i]? = some v := by
  unfold L2.start
  by_cases h : i < vs.length
  · rw [List.getElem?_append_left (by simpa using h)]
    exact map_some_get
  · rw [List.getElem?_append_right (by simpa using h)]
    constructor
    · intro z
      have := List.mem_of_getElem? z
      simp at this
    · intro z
      have := (List.getElem?_eq_some_iff.mp z).1
      omega
theorem owns_start {ws : List W} {vs : List V} {i : Nat} {a : Addr} {xs : List D} : Owns (startD N ws) (L2.start N vs) i a xs ↔ Owns (ws.map some) (vs.map some) i a xs := by
  constructor
  · intro o
    cases o with
    | top h1 h2 => exact .top (map_some_get.mpr (startD_get.mp h1)) (map_some_get.mpr (start_get.mp h2))
    | sub h1 h2 => exact .sub (map_some_get.mpr (startD_get.mp h1)) h2
    | reg h1 h2 => exact .reg (map_some_get.mpr (startD_get.mp h1)) h2
  · intro o
    cases o with
    | top h1 h2 => exact .top (startD_get.mpr (map_some_get.mp h1)) (start_get.mpr (map_some_get.mp h2))
    | sub h1 h2 => exact .sub (startD_get.mpr (map_some_get.mp h1)) h2
    | reg h1 h2 => exact .reg (startD_get.mpr (map_some_get.mp h1)) h2
theorem own_start {ws : List W} {vs : List V} {a : Addr} : OwnAt (startD N ws) (L2.start N vs) a ↔ OwnAt (ws.map some) (vs.map some) a :=
  ⟨fun ⟨i, xs, o⟩ => ⟨i, xs, owns_start.mp o⟩, fun ⟨i, xs, o⟩ => ⟨i, xs, owns_start.mpr o⟩⟩
theorem rel_start {Hs H : Hp} {ws : List W} {vs : List V} (h : Rel K ⟨Hs, ws.map some, vs.map some, H⟩) : Rel K ⟨Hs, startD N ws, L2.start N vs, H⟩ := by
  have hl : vs.length = ws.length := by simpa using h.len
  refine ⟨by simp [startD, L2.start, hl], h.same, fun i d hd => ?_, fun i xs hx => ?_, fun i j p xs ys a1 a2 => h.sepO i j p xs ys (owns_start.mp a1) (owns_start.mp a2), fun i p its hx => ?_, fun i a dd fs hx => ?_, fun i r hx => ?_⟩
  · obtain ⟨v, a, b⟩ := h.val i d (map_some_get.mpr (startD_get.mp hd))
    exact ⟨v, start_get.mpr (map_some_get.mp a), b⟩
  · obtain ⟨p, us, a, b⟩ := h.own i xs (map_some_get.mpr (startD_get.mp hx))
    exact ⟨p, us, start_get.mpr (map_some_get.mp a), b⟩
  · obtain ⟨q1, q2⟩ := h.nst i p its (map_some_get.mpr (startD_get.mp hx))
    exact ⟨start_get.mpr (map_some_get.mp q1), q2⟩
  · obtain ⟨q1, q2⟩ := h.exc i a dd fs (map_some_get.mpr (startD_get.mp hx))
    exact ⟨start_get.mpr (map_some_get.mp q1), q2⟩
  · obtain ⟨v, q1, q2⟩ := h.reg i r (map_some_get.mpr (startD_get.mp hx))
    exact ⟨v, start_get.mpr (map_some_get.mp q1), q2⟩
/-- a def's end, seen from its caller -/
theorem rel_end {Hs H : Hp} {ws : List W} {vs : List V} {g : Gst} (h : Rel K ⟨Hs, ws.map some, vs.map some, H⟩) (hfx : ∀ (i : Nat) (w : W), ws[i]? = some w → ArgOk fx i w) (h' : Rel K g) (e : Ext fx ⟨Hs, startD N ws, L2.start N vs, H⟩ g) (all : ∀ i ∈ fx, ∃ w, g.ρ[i]? = some (some w)) :
    Rel K ⟨g.Hs, (outs fx g.ρ 0 ws).map some, vs.map some, g.H⟩ ∧ Ext [] ⟨Hs, ws.map some, vs.map some, H⟩ ⟨g.Hs, (outs fx g.ρ 0 ws).map some, vs.map some, g.H⟩ ∧
      ∀ a, OwnAt ((outs fx g.ρ 0 ws).map some) (vs.map some) a → ∃ (i : Nat) (xs : List D), i ∈ fx ∧ Owns g.ρ g.σ i a xs := by
  have hl : vs.length = ws.length := by simpa using h.len
  have sg : ∀ (k : Nat) (v : V), k ∈ fx → vs[k]? = some v → g.σ[k]? = some (some v) := fun k v hk hv => by
    rw [e.fix k hk]
    exact start_get.mpr hv
  have key : ∀ (k : Nat) (w : W), (outs fx g.ρ 0 ws)[k]? = some w → (k ∈ fx ∧ g.ρ[k]? = some (some w) ∧ ∃ v, vs[k]? = some v) ∨ (((∀ xs, w ≠ .own xs) ∧ (∀ p its, w ≠ .nst p its) ∧ ∀ r, w ≠ .reg r) ∧ ws[k]? = some w) := fun k w z => by
    have lk : k < ws.length := by
      have := (List.getElem?_eq_some_iff.mp z).1
      rwa [outs_length] at this
    rcases outs_get z with ⟨h1, h2⟩ | ⟨h1, h2⟩
    · rw [Nat.zero_add] at h1 h2
      left
      refine ⟨h1, ?_, vs[k]'(by omega), List.getElem?_eq_getElem (by omega)⟩
      rcases h2 with h2 | ⟨_, h2⟩
      · exact h2
      · obtain ⟨w2, q⟩ := all k h1
        exact absurd q (h2 w2)
    · rw [Nat.zero_add] at h1
      right
      refine ⟨⟨fun xs e => ?_, fun p its e => ?_, fun r e => ?_⟩, h2⟩
      · subst e
        exact absurd (hfx k _ h2) h1
      · subst e
        exact hfx k _ h2
      · subst e
        exact absurd (hfx k _ h2) h1
  have ows : ∀ (k : Nat) (a : Addr) (xs : List D), Owns ((outs fx g.ρ 0 ws).map some) (vs.map some) k a xs → k ∈ fx ∧ Owns g.ρ g.σ k a xs := fun k a xs o => by
    cases o with
    | top z1 z2 =>
      rcases key k _ (map_some_get.mp z1) with ⟨h1, h2, _⟩ | ⟨h1, _⟩
      · exact ⟨h1, .top h2 (sg k _ h1 (map_some_get.mp z2))⟩
      · exact absurd rfl (h1.1 _)
    | sub z1 z2 =>
      rcases key k _ (map_some_get.mp z1) with ⟨h1, h2, _⟩ | ⟨h1, _⟩
      · exact ⟨h1, .sub h2 z2⟩
      · exact absurd rfl (h1.2.1 _ _)
    | reg z1 z2 =>
      rcases key k _ (map_some_get.mp z1) with ⟨h1, h2, _⟩ | ⟨h1, _⟩
      · exact ⟨h1, .reg h2 z2⟩
      · exact absurd rfl (h1.2.2 _)
  have ow : ∀ a, OwnAt ((outs fx g.ρ 0 ws).map some) (vs.map some) a → ∃ (i : Nat) (xs : List D), i ∈ fx ∧ Owns g.ρ g.σ i a xs := fun a ⟨k, xs, z⟩ => let ⟨q1, q2⟩ := ows k a xs z; ⟨k, xs, q1, q2⟩
  refine ⟨⟨by simp [outs_length, hl], h'.same, fun k d hd => ?_, fun k xs hx => ?_, fun j k p xs ys a1 a2 => h'.sepO j k p xs ys (ows j p xs a1).2 (ows k p ys a2).2, fun k p its hx => ?_, fun k a dd fs hx => ?_, fun k r hx => ?_⟩, ⟨e.same, fun a o x n => (e.new a o x n).imp id (fun z => z.imp (fun y => ⟨own_start.mp y.1, y.2⟩) id), fun a o x n => e.frame a o x fun z => n (own_start.mp z), e.dom, fun a x => ?_, fun i hi => by simp at hi, rfl⟩, ow⟩
  · rcases key k _ (map_some_get.mp hd) with ⟨h1, h2, v, hv⟩ | ⟨_, h2⟩
    · obtain ⟨v', a, b⟩ := h'.val k d h2
      rw [sg k v h1 hv] at a
      cases a
      exact ⟨v, map_some_get.mpr hv, b⟩
    · obtain ⟨v, a, b⟩ := h.val k d (map_some_get.mpr h2)
      exact ⟨v, a, dp_mono e.same _ _ b⟩
  · rcases key k _ (map_some_get.mp hx) with ⟨h1, h2, v, hv⟩ | ⟨h1, _⟩
    · obtain ⟨p, us, a, b⟩ := h'.own k xs h2
      rw [sg k v h1 hv] at a
      cases a
      exact ⟨p, us, map_some_get.mpr hv, b⟩
    · exact absurd rfl (h1.1 _)
  · rcases key k _ (map_some_get.mp hx) with ⟨h1, h2, v, hv⟩ | ⟨h1, _⟩
    · obtain ⟨q1, q2⟩ := h'.nst k p its h2
      rw [sg k v h1 hv] at q1
      cases q1
      exact ⟨map_some_get.mpr hv, q2⟩
    · exact absurd rfl (h1.2.1 _ _)
  · rcases key k _ (map_some_get.mp hx) with ⟨h1, h2, v, hv⟩ | ⟨_, h2⟩
    · obtain ⟨q1, q2⟩ := h'.exc k a dd fs h2
      rw [sg k v h1 hv] at q1
      cases q1
      exact ⟨map_some_get.mpr hv, q2⟩
    · obtain ⟨q1, q2⟩ := h.exc k a dd fs (map_some_get.mpr h2)
      exact ⟨q1, q2.mono e.same fun fv k => e.frame dd _ k fun z => let ⟨_, w, m⟩ := (own_start.mp z).there h; m.2.1 _ (Option.some.inj (w.symm.trans k))⟩
  · rcases key k _ (map_some_get.mp hx) with ⟨h1, h2, v, hv⟩ | ⟨h1, _⟩
    · obtain ⟨v', q1, q2⟩ := h'.reg k r h2
      rw [sg k v h1 hv] at q1
      cases q1
      exact ⟨v, map_some_get.mpr hv, q2⟩
    · exact absurd rfl (h1.2.2 _)
  · obtain ⟨i, xs, h1, h2⟩ := ow a x
    exact (e.own a ⟨i, xs, h2⟩).imp own_start.mp id
end
section
variable {P : Program} {w : World} {K : PySem.W.Frag} {mg : Str → Option Value} {base : Heap}
/-- a def's end, seen from its caller, in the hand layer's words -/
theorem fn_end {fx : List Nat} {N : List Str} {X : Cx} (eK : X.K = K) (eM : X.mg = mg) {Hs H : Hp} {ws : List W} {vs : List V} {Q : VK} {E : XK} {P' : W → List W → Prop} {PX : Xc → List W → Prop} (h1 : Rel K ⟨Hs, ws.map some, vs.map some, H⟩) (hfx : ∀ (i : Nat) (w : W), ws[i]? = some w → ArgOk fx i w)
    (hq : ∀ g' v w ws', g'.ρ = ws'.map some → g'.σ = vs.map some → Rel K g' → Ext [] ⟨Hs, ws.map some, vs.map some, H⟩ g' → Rep K g' (H, fun _ => False) v w.r → P' w ws' → Q v g'.H)
    (hx : ∀ g' cls d x ws', g'.ρ = ws'.map some → g'.σ = vs.map some → Rel K g' → Ext [] ⟨Hs, ws.map some, vs.map some, H⟩ g' → XRep mg K g' cls d x → PX x ws' → E cls d g'.H) :
    SOk X fx (fun cls d _ H => E cls d H) { nx := fun _ H' => Q .non H', rt := Q } ⟨Hs, startD N ws, L2.start N vs, H⟩ (endsOf fx ws P' PX) := by
  subst eK eM
  have fin : ∀ (g' : Gst) (v : V) (r : R), Rel X.K g' → Ext fx ⟨Hs, startD N ws, L2.start N vs, H⟩ g' → Rep X.K g' (bg ⟨Hs, startD N ws, L2.start N vs, H⟩) v r → retP fx ws P' r g'.ρ → Q v g'.H := fun g' v r r' e' rp z => by
    obtain ⟨all, z⟩ := chk_and z
    have all : ∀ i ∈ fx, ∃ w, g'.ρ[i]? = some (some w) := fun i hi => isS_of (List.all_eq_true.mp all i hi)
    obtain ⟨a, b, c⟩ := rel_end h1 hfx r' e' all
    have fresh : ws.all noR = true → ∀ q : Addr, ¬ OwnAt g'.ρ g'.σ q → (∀ j ∈ fx, (isO g'.ρ[j]? || notO ws[j]?) = true) → (H q = none ∨ OwnAt (startD N ws) (L2.start N vs) q) → H q = none := fun nr q no allo y => by
      rcases y with y | y
      · exact y
      · obtain ⟨j, zs, y⟩ := own_start.mp y
        obtain ⟨q1, q2⟩ := (owns_map (fun p its z => hfx j _ z) y).resolve_right fun ⟨r, z, _⟩ => noR_all nr (map_some_get.mp z)
        have hj : j ∈ fx := hfx j _ (map_some_get.mp q1)
        obtain ⟨ys, q3⟩ := isO_or (allo j hj) (map_some_get.mp q1)
        have q4 : g'.σ[j]? = some (some (V.ref q)) := by
          rw [e'.fix j hj]
          exact start_get.mpr (map_some_get.mp q2)
        exact absurd (OwnAt.top q3 q4) no
    have nst : ws.all noR = true → ∀ (i : Nat) (p : Addr) (xs : List D), Owns g'.ρ g'.σ i p xs → i ∉ fx → (∀ j ∈ fx, ∃ ys, g'.ρ[j]? = some (some (W.own ys))) → H p = none := fun nr i p xs o ni allo => by
      rcases e'.own p ⟨i, xs, o⟩ with q | q
      · obtain ⟨j, zs, q⟩ := own_start.mp q
        obtain ⟨q1, q2⟩ := (owns_map (fun p its z => hfx j _ z) q).resolve_right fun ⟨r, z, _⟩ => noR_all nr (map_some_get.mp z)
        have hj : j ∈ fx := hfx j _ (map_some_get.mp q1)
        obtain ⟨ys, q3⟩ := allo j hj
        have q4 : g'.σ[j]? = some (some (V.ref p)) := by
          rw [e'.fix j hj]
          exact start_get.mpr (map_some_get.mp q2)
        have := r'.sepO i j p xs ys o (.top q3 q4)
        subst this
        exact absurd hj ni
      · exact q
    cases r with
    | val d => exact hq ⟨g'.Hs, (outs fx g'.ρ 0 ws).map some, vs.map some, g'.H⟩ v (.val d) _ rfl rfl a b rp z
    | own xs =>
      obtain ⟨p, us, y1, y2, y3, y4, y5, y6⟩ := rp
      obtain ⟨allo, z⟩ := chk_and z
      rw [Bool.and_eq_true] at allo
      obtain ⟨nr, allo⟩ := allo
      refine hq ⟨g'.Hs, (outs fx g'.ρ 0 ws).map some, vs.map some, g'.H⟩ v (.own xs) _ rfl rfl a b ⟨p, us, y1, y2, y3, y4, fun q => ?_, .inl (fresh nr p y5 (fun j hj => List.all_eq_true.mp allo j hj) y6)⟩ z
      obtain ⟨i, zs, _, q1⟩ := c p q
      exact y5 ⟨i, zs, q1⟩
    | nst p its =>
      obtain ⟨y1, y2, y3, y4⟩ := rp
      obtain ⟨allo, z⟩ := chk_and z
      rw [Bool.and_eq_true] at allo
      obtain ⟨nr, allo⟩ := allo
      have allo : ∀ j ∈ fx, (isO g'.ρ[j]? || notO ws[j]?) = true := fun j hj => List.all_eq_true.mp allo j hj
      refine hq ⟨g'.Hs, (outs fx g'.ρ 0 ws).map some, vs.map some, g'.H⟩ v (.nst p its) _ rfl rfl a b ⟨y1, y2, fun q hq z => ?_, fun q m => .inl ?_⟩ z
      · obtain ⟨i, zs, _, q1⟩ := c q z
        exact y3 q hq ⟨i, zs, q1⟩
      · exact fresh nr q (y3 q (List.mem_cons_of_mem _ m)) allo (y4 q m)
    | var i =>
      obtain ⟨y1, w', y2⟩ := rp
      cases w' with
      | val d =>
        simp only [y2] at z
        obtain ⟨v', z1, z2⟩ := r'.val i d y2
        rw [y1] at z1
        cases z1
        exact hq ⟨g'.Hs, (outs fx g'.ρ 0 ws).map some, vs.map some, g'.H⟩ v (.val d) _ rfl rfl a b z2 z
      | exc a dd fs => simp only [y2] at z
      | reg r => simp only [y2] at z
      | own xs =>
        simp only [y2] at z
        obtain ⟨na, z⟩ := chk_and z
        rw [Bool.and_eq_true, Bool.and_eq_true] at na
        obtain ⟨⟨nr, ni⟩, allo⟩ := na
        have ni : i ∉ fx := by simpa using ni
        have allo : ∀ j ∈ fx, ∃ ys, g'.ρ[j]? = some (some (W.own ys)) := fun j hj => isO_of (List.all_eq_true.mp allo j hj)
        obtain ⟨p, us, z1, z2, z3, z4⟩ := r'.own i xs y2
        rw [y1] at z1
        cases z1
        refine hq ⟨g'.Hs, (outs fx g'.ρ 0 ws).map some, vs.map some, g'.H⟩ _ (.own xs) _ rfl rfl a b ⟨p, us, rfl, z2, z3, z4, fun q => ?_, .inl (nst nr i p xs (.top y2 y1) ni allo)⟩ z
        obtain ⟨j, zs, q0, q1⟩ := c p q
        have := r'.sepO i j p xs zs (.top y2 y1) q1
        subst this
        exact ni q0
      | nst p its =>
        simp only [y2] at z
        obtain ⟨na, z⟩ := chk_and z
        rw [Bool.and_eq_true, Bool.and_eq_true] at na
        obtain ⟨⟨nr, ni⟩, allo⟩ := na
        have ni : i ∉ fx := by simpa using ni
        have allo : ∀ j ∈ fx, ∃ ys, g'.ρ[j]? = some (some (W.own ys)) := fun j hj => isO_of (List.all_eq_true.mp allo j hj)
        obtain ⟨z1, z2⟩ := r'.nst i p its y2
        rw [y1] at z1
        cases z1
        refine hq ⟨g'.Hs, (outs fx g'.ρ 0 ws).map some, vs.map some, g'.H⟩ _ (.nst p its) _ rfl rfl a b ⟨rfl, z2, fun q hq z => ?_, fun q hq => ?_⟩ z
        · obtain ⟨j, zs, q0, q1⟩ := c q z
          rcases List.mem_cons.mp hq with rfl | m
          · obtain ⟨us, w, m⟩ := OwnAt.there r' ⟨j, zs, q1⟩
            obtain ⟨⟨vs', t, _⟩, _⟩ := z2
            exact m.1 _ (Option.some.inj (w.symm.trans t))
          · obtain ⟨xs, m⟩ := ads_mem.mp m
            have := r'.sepO i j q xs zs (.sub y2 m) q1
            subst this
            exact ni q0
        · obtain ⟨xs, m⟩ := ads_mem.mp hq
          exact .inl (nst nr i q xs (.sub y2 m) ni allo)
  refine ⟨fun g' r e z => fin g' .non (.val .none) r e Dp.non z, fun g' v r r' e' rp z => fin g' v r r' e' rp z, fun _ _ _ z => z.elim, fun _ _ _ z => z.elim, fun g' cls d x r' e' xr z => ?_⟩
  obtain ⟨z1, z2⟩ := chk_and z
  obtain ⟨a, b, c⟩ := rel_end h1 hfx r' e' fun i hi => isS_of (List.all_eq_true.mp z1 i hi)
  exact hx ⟨g'.Hs, (outs fx g'.ρ 0 ws).map some, vs.map some, g'.H⟩ cls d x _ rfl rfl a b xr z2
/-- THE RULE for a def -/
theorem fn_okD {x qual : Str} {st : Stmt} {f : Addr} {fd : FuncData} {N ps : List Str} {k : Nat} {sp : SpD} {t : TsD} {fx : List Nat} (F : Fun K x qual st f fd) (S : FnScope N ps (defScope st))
    (len : ∀ ws Q E, sp ws Q E → ws.length = ps.length)
    (hb : ∀ (cdv : Value) (A : Around) (outer : List Env) (s : Shared) (H : Hp) (E : XK), Room k (A.deeper (PyProof.Rows.envOfC qual (defScope st) s.heap.objs.size f cdv)) →
      PvB (cxOf (L2N.CX P w) P w K mg base N qual (defScope st) f cdv A outer s H E) fx (fun cls d _ H => E cls d H) (defBody st) t)
    (hvc : ∀ ws Q E, sp ws Q E → t (endsOf fx ws Q E) (startD N ws)) : FnOk P w K mg base (L2N.CX P w) (k + 1) f fd ps (lower K mg fx sp) := by
  obtain ⟨oc, od, kV, doc, pm, an, cdv, ct, osl, rfl, lk, hcd⟩ := F.ex
  refine fn_of lk hcd S (fun vs H Q E h => ?_) fun A outer s H vs Q E hr h => ?_
  · obtain ⟨Hs, ws, P', PX, h1, _, h2, _⟩ := h
    have := len _ _ _ h2
    have h3 := h1.len
    simp only [List.length_map] at h3
    omega
  · obtain ⟨Hs, ws, P', PX, h1, hfx, h2, hq, hx⟩ := h
    exact ⟨_, hb cdv A outer s H E hr, Hs, startD N ws, endsOf fx ws P' PX, rel_start h1, hvc _ _ _ h2, fn_end rfl rfl h1 hfx hq hx⟩
end
end
end RR

/-! LayG: what operations do to data. -/
namespace RR
open PySem PySem.Spec L2
/-! ### numbers -/
def mulOk (i j : Int) : Prop := IntMulOk i j
theorem mulOk_log {i j : Int} (h : i.natAbs.log2 + j.natAbs.log2 < 100000000) : mulOk i j := by
  have b : ∀ x : Int, Builtin.Int.intBits x ≤ x.natAbs.log2 + 1 := fun x => by
    unfold Builtin.Int.intBits
    split <;> omega
  have h1 := b i
  have h2 := b j
  have e : bitsLine = 134217728 := by decide
  unfold mulOk IntMulOk
  intro z
  rw [Bool.and_eq_true] at z
  have z2 := z.2
  unfold Builtin.Int.intTooBig at z2
  have z3 := of_decide_eq_true z2
  rw [e] at z3
  omega
theorem mulOk_flag {x : Int} {b : Bool} : mulOk x (if b then 1 else 0) := by
  apply IntMulOk.of_right
  cases b <;> decide
theorem mulOk.ok {i j : Int} (h : mulOk i j) : IntMulOk i j := h
def divOk (j : Int) : Prop := j ≠ 0 ∧ j.natAbs.log2 < 9000
section
variable {X : Cx}
theorem op_mulB : OpR X (binaryOp .Mult) (rI mulOk fun i j => .int (i * j)) := opI fun _ _ _ _ _ _ _ hc q => PyProof.Rows.mul_int q hc.ok
theorem op_divB : OpR X (binaryOp .FloorDiv) (rI (fun _ j => divOk j) fun i j => .int (i.fdiv j)) := opI fun _ _ _ _ _ _ _ hc q => PyProof.Rows.floordiv_int hc.1 q (.inl (PyProof.noPylong_of_log2 hc.2))
/-- lists put together, whatever they are -/
def rCatS (K : PySem.W.Frag) : R2 := fun x y H Q => ∃ l b xs zs, x = .ref l ∧ y = .ref b ∧ SqL K H l xs ∧ SqL K H b zs ∧ xs.length + zs.length ≤ sizeLine ∧ ∀ p, H p = none → Q (.ref p) (upd H p (.lst (xs ++ zs)))
theorem op_catS : OpR X (binaryOp .Add) (rCatS X.K) := by
  intro pins s σ H x y v u Q I rx ry h
  obtain ⟨l, b, xs, zs, rfl, rfl, hH, hB, hz, q⟩ := h
  cases rx
  cases ry
  obtain ⟨its, r, ⟨⟨cls, dd, data, sl⟩, n, ho, hc, hdd, hd⟩, z⟩ := I.list hH
  obtain ⟨its2, r2, ⟨⟨cls2, dd2, data2, sl2⟩, n2, ho2, hc2, hdd2, hd2⟩, z2⟩ := I.list hB
  simp only at hc hd hdd hc2 hd2 hdd2
  subst hc hd hdd hc2 hd2 hdd2
  have e : its.toArray ++ its2.toArray = (its ++ its2).toArray := by simp
  have l1 := r.length
  have l2 := r2.length
  refine concat_meets ⟨_, ho, rfl⟩ ⟨_, ho2, rfl⟩ noFill_list_add seq_list_add PySem.F.slot_list_add PySem.F.entry_list_add (PySem.F.args_list_add_2 _ _) (PyProof.Rows.list_addW l b its.toArray its2.toArray n n2 none none sl sl2 (by rw [List.size_toArray, List.size_toArray]; omega)) ⟨ho, ho2, ?_⟩
  rw [e]
  exact ⟨.ref _, _, I.lnew (t' := s.toks) (r.append r2) (by rw [List.length_append]; omega), rfl, q _ I.fresh⟩
end

def gAdd : G2 := fun x y P => match x, y with
  | .int i, .int j => P (.val (.int (i + j)))
  | .list xs, .list ys => xs.length + ys.length ≤ 1000000 ∧ P (.own (xs ++ ys))
  | .str s, .str t => s.length + t.length ≤ 1000000 ∧ P (.val (.str (s ++ t)))
  | _, _ => False
def gSub : G2 := fun x y P => match x, y with
  | .int i, .int j => P (.val (.int (i - j)))
  | _, _ => False
def gMul : G2 := fun x y P => match x, y with
  | .int i, .int j => mulOk i j ∧ P (.val (.int (i * j)))
  | _, _ => False
def gDiv : G2 := fun x y P => match x, y with
  | .int i, .int j => divOk j ∧ P (.val (.int (i.fdiv j)))
  | _, _ => False
def gMod : G2 := fun x y P => match x, y with
  | .int i, .int j => j ≠ 0 ∧ P (.val (.int (i.fmod j)))
  | _, _ => False
def gPow : G2 := fun x y P => match x, y with
  | .int i, .int j => CPow i j ∧ P (.val (.int (i ^ j.toNat)))
  | _, _ => False
def gLt : G2 := fun x y P => match x, y with
  | .int i, .int j => P (.val (.bool (decide (i < j))))
  | _, _ => False
def gLe : G2 := fun x y P => match x, y with
  | .int i, .int j => P (.val (.bool (decide (i ≤ j))))
  | _, _ => False
def gGt : G2 := fun x y P => match x, y with
  | .int i, .int j => P (.val (.bool (decide (j < i))))
  | _, _ => False
def gGe : G2 := fun x y P => match x, y with
  | .int i, .int j => P (.val (.bool (decide (j ≤ i))))
  | _, _ => False
def gEq : G2 := fun x y P => SeqAt.shaped x = true ∧ SeqAt.shaped y = true ∧ P (.val (.bool (PyData.eqv x y)))
def gNe : G2 := fun x y P => SeqAt.shaped x = true ∧ SeqAt.shaped y = true ∧ P (.val (.bool (!PyData.eqv x y)))
def isNon : D → Bool
  | .none => true
  | _ => false
def gIsN : G2 := fun x y P => match y with
  | .none => P (.val (.bool (isNon x)))
  | _ => False
def gNotN : G2 := fun x y P => match y with
  | .none => P (.val (.bool (!isNon x)))
  | _ => False
def gIx : G2 := fun x y P => match x, y with
  | .list xs, .int i => onSome (atI xs i) fun d => P (.val d)
  | .tuple xs, .int i => onSome (atI xs i) fun d => P (.val d)
  | _, _ => False
/-- flat things -/
def flatD : D → Bool
  | .none => true | .bool _ => true | .int _ => true | .str _ => true | _ => false
def gIn (neg : Bool) : G2 := fun x y P => match y with
  | .list xs => SeqAt.shaped x = true ∧ SeqAt.shaped (.list xs) = true ∧ P (.val (.bool (xor neg (xs.any fun d => PyData.eqv d x))))
  | _ => False
section
variable {X : Cx} {K : PySem.W.Frag}
theorem res_int {Hs H : Hp} {i : Int} (s : Same Hs H) : Res K Hs H (.int i) H (.val (.int i)) := .pure s (.int i)
theorem res_bool {Hs H : Hp} {i : Bool} (s : Same Hs H) : Res K Hs H (.bl i) H (.val (.bool i)) := .pure s (.bl i)
theorem res_list {Hs H : Hp} {p : Addr} {vs : List V} {ds : List D} (n : H p = none) (dp : DpAll K Hs vs ds) : Res K Hs H (.ref p) (upd H p (.lst vs)) (.own ds) := ⟨p, vs, rfl, n, rfl, dp⟩
theorem sem_add : Sem2 K (fun x y H Q => rI0 (fun i j => .int (i + j)) x y H Q ∨ rCatS K x y H Q ∨ (∃ i j, x = .str i ∧ y = .str j ∧ i.length + j.length ≤ sizeLine ∧ Q (.str (i ++ j)) H)) gAdd := by
  intro Hs H x y dx dy P Q sm lx ly h k
  unfold gAdd at h
  split at h
  · obtain rfl := lx.int
    obtain rfl := ly.int
    exact .inl ⟨_, _, rfl, rfl, k _ _ _ h (res_int sm)⟩
  · obtain ⟨p, vs, rfl, s1, d1⟩ := lx.lst sm
    obtain ⟨q, us, rfl, s2, d2⟩ := ly.lst sm
    have l1 := dpa_len d1
    have l2 := dpa_len d2
    exact .inr (.inl ⟨p, q, vs, us, rfl, rfl, s1, s2, by rw [l1, l2]; exact mill h.1, fun z nz => k _ _ _ h.2 (res_list nz (dpa_append d1 d2))⟩)
  · obtain rfl := lx.str
    obtain rfl := ly.str
    exact .inr (.inr ⟨_, _, rfl, rfl, mill h.1, k _ _ _ h.2 (.pure sm (.str _))⟩)
  · exact h.elim
theorem op_addA : OpR X (binaryOp .Add) (fun x y H Q => rI0 (fun i j => .int (i + j)) x y H Q ∨ rCatS X.K x y H Q ∨ (∃ i j, x = .str i ∧ y = .str j ∧ i.length + j.length ≤ sizeLine ∧ Q (.str (i ++ j)) H)) := op_add.or (op_catS.or op_add_str)
theorem sem_sub : Sem2 K (rI0 fun i j => .int (i - j)) gSub := by
  intro Hs H x y dx dy P Q sm lx ly h k
  unfold gSub at h
  split at h
  · obtain rfl := lx.int
    obtain rfl := ly.int
    exact ⟨_, _, rfl, rfl, k _ _ _ h (res_int sm)⟩
  · exact h.elim
theorem sem_mul : Sem2 K (rI mulOk fun i j => .int (i * j)) gMul := by
  intro Hs H x y dx dy P Q sm lx ly h k
  unfold gMul at h
  split at h
  · obtain rfl := lx.int
    obtain rfl := ly.int
    exact ⟨_, _, rfl, rfl, h.1, k _ _ _ h.2 (res_int sm)⟩
  · exact h.elim
theorem sem_div : Sem2 K (rI (fun _ j => divOk j) fun i j => .int (i.fdiv j)) gDiv := by
  intro Hs H x y dx dy P Q sm lx ly h k
  unfold gDiv at h
  split at h
  · obtain rfl := lx.int
    obtain rfl := ly.int
    exact ⟨_, _, rfl, rfl, h.1, k _ _ _ h.2 (res_int sm)⟩
  · exact h.elim
theorem sem_mod : Sem2 K (rI (fun _ j => j ≠ 0) fun i j => .int (i.fmod j)) gMod := by
  intro Hs H x y dx dy P Q sm lx ly h k
  unfold gMod at h
  split at h
  · obtain rfl := lx.int
    obtain rfl := ly.int
    exact ⟨_, _, rfl, rfl, h.1, k _ _ _ h.2 (res_int sm)⟩
  · exact h.elim
theorem sem_pow : Sem2 K (rI CPow fun i j => .int (i ^ j.toNat)) gPow := by
  intro Hs H x y dx dy P Q sm lx ly h k
  unfold gPow at h
  split at h
  · obtain rfl := lx.int
    obtain rfl := ly.int
    exact ⟨_, _, rfl, rfl, h.1, k _ _ _ h.2 (res_int sm)⟩
  · exact h.elim
theorem sem_lt : Sem2 K (rI0 fun i j => .bl (decide (i < j))) gLt := by
  intro Hs H x y dx dy P Q sm lx ly h k
  unfold gLt at h
  split at h
  · obtain rfl := lx.int
    obtain rfl := ly.int
    exact ⟨_, _, rfl, rfl, k _ _ _ h (res_bool sm)⟩
  · exact h.elim
theorem sem_le : Sem2 K (rI0 fun i j => .bl (decide (i ≤ j))) gLe := by
  intro Hs H x y dx dy P Q sm lx ly h k
  unfold gLe at h
  split at h
  · obtain rfl := lx.int
    obtain rfl := ly.int
    exact ⟨_, _, rfl, rfl, k _ _ _ h (res_bool sm)⟩
  · exact h.elim
theorem sem_gt : Sem2 K (rI0 fun i j => .bl (decide (j < i))) gGt := by
  intro Hs H x y dx dy P Q sm lx ly h k
  unfold gGt at h
  split at h
  · obtain rfl := lx.int
    obtain rfl := ly.int
    exact ⟨_, _, rfl, rfl, k _ _ _ h (res_bool sm)⟩
  · exact h.elim
theorem sem_ge : Sem2 K (rI0 fun i j => .bl (decide (j ≤ i))) gGe := by
  intro Hs H x y dx dy P Q sm lx ly h k
  unfold gGe at h
  split at h
  · obtain rfl := lx.int
    obtain rfl := ly.int
    exact ⟨_, _, rfl, rfl, k _ _ _ h (res_bool sm)⟩
  · exact h.elim
theorem sem_eq : Sem2 K (rEqD K) gEq := by
  intro Hs H x y dx dy P Q sm lx ly h k
  exact ⟨dx, dy, lx.dp sm, ly.dp sm, h.1, h.2.1, k _ _ _ h.2.2 (res_bool sm)⟩
theorem sem_ne : Sem2 K (rNeD K) gNe := by
  intro Hs H x y dx dy P Q sm lx ly h k
  exact ⟨dx, dy, lx.dp sm, ly.dp sm, h.1, h.2.1, k _ _ _ h.2.2 (res_bool sm)⟩
theorem isNon_ok {Hs H : Hp} {x : V} {d : D} (l : Lk K Hs H x d) : decide (x = .non) = isNon d := by
  rcases l with h | ⟨p, vs, ds, rfl, rfl, _⟩
  · cases h <;> simp [isNon]
  · simp [isNon]
theorem sem_isN : Sem2 K (fun x y H Q => y = .non ∧ Q (.bl (decide (x = .non))) H) gIsN := by
  intro Hs H x y dx dy P Q sm lx ly h k
  unfold gIsN at h
  split at h
  · obtain rfl := ly.non
    exact ⟨rfl, by rw [isNon_ok lx]; exact k _ _ _ h (res_bool sm)⟩
  · exact h.elim
theorem sem_notN : Sem2 K (fun x y H Q => y = .non ∧ Q (.bl (!decide (x = .non))) H) gNotN := by
  intro Hs H x y dx dy P Q sm lx ly h k
  unfold gNotN at h
  split at h
  · obtain rfl := ly.non
    exact ⟨rfl, by rw [isNon_ok lx]; exact k _ _ _ h (res_bool sm)⟩
  · exact h.elim
theorem atI_dpa {Hs : Hp} {vs : List V} {ds : List D} {i : Int} {d : D} (h : DpAll K Hs vs ds) (e : atI ds i = some d) : ∃ v, atI vs i = some v ∧ Dp K Hs v d := by
  unfold atI at e ⊢
  rw [dpa_len h]
  obtain ⟨j, h1, h2⟩ := Option.bind_eq_some_iff.mp e
  obtain ⟨v, h3, h4⟩ := dpa_get h h2
  exact ⟨v, by rw [h1]; exact h3, h4⟩
theorem sem_ix : Sem2 K (rIx K) gIx := by
  intro Hs H x y dx dy P Q sm lx ly h k
  unfold gIx at h
  split at h
  · obtain rfl := ly.int
    obtain ⟨p, vs, rfl, s1, d1⟩ := lx.lst sm
    obtain ⟨d, e, h⟩ := onSome_ex h
    obtain ⟨v, e2, dp⟩ := atI_dpa d1 e
    exact .inl ⟨p, vs, _, v, rfl, rfl, s1, e2, k _ _ _ h (.pure sm dp)⟩
  · obtain rfl := ly.int
    obtain ⟨p, vs, rfl, s1, d1⟩ := lx.tup sm
    obtain ⟨d, e, h⟩ := onSome_ex h
    obtain ⟨v, e2, dp⟩ := atI_dpa d1 e
    exact .inr (.inl ⟨p, vs, _, v, rfl, rfl, s1, e2, k _ _ _ h (.pure sm dp)⟩)
  · exact h.elim
theorem sem_in : Sem2 K (rInD K) (gIn false) := by
  intro Hs H x y dx dy P Q sm lx ly h k
  unfold gIn at h
  split at h
  · exact ⟨dx, _, lx.dp sm, ly.dp sm, h.1, h.2.1, k _ _ _ h.2.2 (by rw [Bool.false_xor]; exact res_bool sm)⟩
  · exact h.elim
theorem sem_notIn : Sem2 K (rNotInD K) (gIn true) := by
  intro Hs H x y dx dy P Q sm lx ly h k
  unfold gIn at h
  split at h
  · exact ⟨dx, _, lx.dp sm, ly.dp sm, h.1, h.2.1, k _ _ _ h.2.2 (by rw [Bool.true_xor]; exact res_bool sm)⟩
  · exact h.elim
/-- x in (1, -1) -/
def gInT (neg : Bool) : G2 := fun x y P => match y with
  | .tuple xs => flatD x = true ∧ xs.all flatD = true ∧ P (.val (.bool (xor neg (xs.any fun d => PyData.eqv d x))))
  | _ => False
theorem flat_dp {Hs : Hp} {v : V} {d : D} (h : Dp K Hs v d) (f : flatD d = true) : flatV v = true := by
  cases h <;> simp_all [flatD, flatV]
theorem eqv_flat {Hs : Hp} {v u : V} {d e : D} (h : Dp K Hs v d) (g : Dp K Hs u e) (f : flatD d = true) (f2 : flatD e = true) : eqV v u = PyData.eqv d e := by
  cases h <;> cases g <;> simp_all [flatD, eqV, PyData.eqv] <;> first | rfl | (rename_i a b; cases a <;> rfl) | (rename_i a b; cases b <;> rfl) | skip
end
def gNeg : G1 := fun x P => match x with
  | .int i => P (.val (.int (-i)))
  | _ => False
theorem sem_neg {K : PySem.W.Frag} : Sem1 K (rU fun i => .int (-i)) gNeg := by
  intro Hs H x dx P Q sm lx h k
  unfold gNeg at h
  split at h
  · obtain rfl := lx.int
    exact ⟨_, rfl, k _ _ _ h (res_int sm)⟩
  · exact h.elim
end RR

/-! LayH: built-ins, slices, methods. -/
namespace RR
open PySem PySem.Spec L2
section
variable {X : Cx} {fx : List Nat} {Wx : WX} {e a b c : Expr} {es : List Expr} {pos : Pos} {K : PySem.W.Frag}
/-! ### slices -/
abbrev TpD := Rho → (Option Int → Rho → Prop) → PostX → Prop
def liftP (X : Cx) (fx : List Nat) (Wx : WX) (t : TpD) : TO := fun σ H Q => ∃ (Hs : Hp) (ρ : Rho) (P : Option Int → Rho → Prop) (PX : PostX), Rel X.K ⟨Hs, ρ, σ, H⟩ ∧ t ρ P PX ∧
  (∀ g' o, Rel X.K g' → GoE fx ⟨Hs, ρ, σ, H⟩ g' → P o g'.ρ → Q o g'.H) ∧ XOk X fx Wx ⟨Hs, ρ, σ, H⟩ PX
theorem PO.imp {o : Option Expr} {t t' : TO} (h : PO X o t) (i : ∀ σ H Q, t' σ H Q → t σ H Q) : PO X o t' := ⟨fun pins s σ H Q I q => h.run pins s σ H Q I (i σ H Q q)⟩
def tNoPt : TpD := fun ρ P _ => P none ρ
def tPt (t : TeD) : TpD := fun ρ P PX => t ρ (fun r ρ1 => onSome (asI (rd ρ1 r)) fun i => P (some i) ρ1) PX
theorem pvP_none : PO X none (liftP X fx Wx tNoPt) := PO.imp po_none fun σ H Q ⟨Hs, ρ, P, PX, hr, ht, hq, _⟩ => hq ⟨Hs, ρ, σ, H⟩ none hr .refl ht
theorem pvP_some {t : TeD} (h : Pv X fx Wx e t) : PO X (some e) (liftP X fx Wx (tPt t)) := by
  refine PO.imp (po_some h) fun σ H Q h => ?_
  obtain ⟨Hs, ρ, P, PX, hr, ht, hq, hx⟩ := h
  refine ⟨Hs, ρ, _, PX, hr, ht, fun g1 v r h1 e1 rp1 p1 => ?_, hx⟩
  obtain ⟨i, q1, q2⟩ := onSome_ex p1
  obtain rfl := (rp1.lk h1 (asI_of q1)).int
  exact ⟨i, rfl, hq g1 (some i) h1 e1 q2⟩
def cutD (xs : List D) (lo hi : Option Int) : List D := (xs.drop (HT.sIx xs.length 0 lo)).take (HT.sIx xs.length xs.length hi - HT.sIx xs.length 0 lo)
def tSlD (te : TeD) (tl th : TpD) : TeD := fun ρ P PX => te ρ (fun r ρ1 => tl ρ1 (fun lo ρ2 => th ρ2 (fun hi ρ3 => onSome (asL (rd ρ3 r)) fun ds => P (.own (cutD ds lo hi)) ρ3) PX) PX) PX
theorem pv_slice {te : TeD} {tl th : TpD} {lo hi : Option Expr} {p2 : Pos} (he : Pv X fx Wx e te) (hl : PO X lo (liftP X fx Wx tl)) (hh : PO X hi (liftP X fx Wx th)) : Pv X fx Wx (.Subscript e (.Slice lo hi none p2) pos) (tSlD te tl th) := by
  refine PE.imp (pe_slice sl_list he hl hh) fun σ H Q h => ?_
  obtain ⟨Hs, ρ, P, PX, hr, ht, hq, hx⟩ := h
  refine ⟨Hs, ρ, _, PX, hr, ht, fun g1 v r h1 e1 rp1 p1 => ?_, hx⟩
  obtain ⟨Hs1, ρ1, σ1, H1⟩ := g1
  obtain rfl : σ1 = σ := e1.sg
  refine ⟨Hs1, ρ1, _, PX, h1, p1, fun g2 l h2 e2 p2 => ?_, hx.go e1.ext⟩
  obtain ⟨Hs2, ρ2, σ2, H2⟩ := g2
  obtain rfl : σ2 = σ1 := e2.sg
  refine ⟨Hs2, ρ2, _, PX, h2, p2, fun g3 u h3 e3 p3 => ?_, hx.go (e1.trans e2).ext⟩
  obtain ⟨ds, q1, q2⟩ := onSome_ex p3
  have e13 := (e1.trans e2).trans e3
  obtain ⟨p, vs, rfl, s1, d1⟩ := ((e3.keep (e2.keep rp1)).lk h3 (asL_of q1)).lst h3.same
  refine ⟨p, vs, rfl, s1, fun z nz => ?_⟩
  have res : Res X.K g3.Hs g3.H (.ref z) (upd g3.H z (.lst (cutV vs l u))) (.own (cutD ds l u)) := res_list nz (by unfold cutV cutD; rw [dpa_len d1]; exact dpa_take _ (dpa_drop _ d1))
  obtain ⟨g', a, b, c, d, e, _⟩ := res.go e13 h3
  rw [← d]
  exact hq g' _ _ a b c (by rw [e]; exact q2)
/-- xs[::-1] -/
def gRevL : G1 := fun x P => match x with
  | .list ds => P (.own ds.reverse)
  | _ => False
theorem pv_revL {te : TeD} {k : Nat} {p1 p2 p3 : Pos} (he : Pv X fx Wx e te) : Pv X fx Wx (.Subscript e (.Slice none none (some (.UnaryOp .USub (.Constant (.int 1) k p1) p2)) p3) pos) (tOp1 gRevL te) := by
  refine PE.imp (pe_revL he) fun σ H Q h => ?_
  refine op1_imp (r := fun x H1 Q => ∃ a xs, x = .ref a ∧ SqL X.K H1 a xs ∧ ∀ p, H1 p = none → Q (.ref p) (upd H1 p (.lst xs.reverse))) (op := gRevL) (fun Hs H x dx P Q sm lx h k => ?_) σ H Q h
  unfold gRevL at h
  split at h
  · obtain ⟨p, vs, rfl, s1, d1⟩ := lx.lst sm
    exact ⟨p, vs, rfl, s1, fun z nz => k _ _ _ h (res_list nz (dpa_reverse d1))⟩
  · exact h.elim
/-- [e] * n -/
def tRepD (te tn : TeD) : TeD := fun ρ P PX => te ρ (fun r ρ1 => match r with
  | .own xs => tn ρ1 (fun rn ρ2 => onSome (asI (rd ρ2 rn)) fun k => (0 ≤ k ∧ xs.length * k.toNat ≤ 1000000 ∧ k ≤ 1000000) ∧ P (.own (List.replicate k.toNat xs).flatten) ρ2) PX
  | _ => False) PX
theorem pv_rep {te tn : TeD} (ha : Pv X fx Wx a te) (hb : Pv X fx Wx b tn) : Pv X fx Wx (.BinOp a .Mult b pos) (tRepD te tn) := by
  refine PE.imp (pe_op op_rep ha hb) fun σ H Q h => ?_
  obtain ⟨Hs, ρ, P, PX, hr, ht, hq, hx⟩ := h
  refine ⟨Hs, ρ, _, PX, hr, ht, fun g1 v r h1 e1 rp1 p1 => ?_, hx⟩
  have ⟨xs, hrr, p1⟩ : ∃ xs, r = .own xs ∧ tn g1.ρ (fun rn ρ2 => onSome (asI (rd ρ2 rn)) fun k => (0 ≤ k ∧ xs.length * k.toNat ≤ 1000000 ∧ k ≤ 1000000) ∧ P (.own (List.replicate k.toNat xs).flatten) ρ2) PX := by
    split at p1
    · exact ⟨_, rfl, p1⟩
    · exact p1.elim
  subst hrr
  obtain ⟨Hs1, ρ1, σ1, H1⟩ := g1
  obtain rfl : σ1 = σ := e1.sg
  refine ⟨Hs1, ρ1, _, PX, h1, p1, fun g2 y rb h2 e2 rp2 p2 => ?_, hx.go e1.ext⟩
  obtain ⟨k, q1, ⟨q2, q3, q4⟩, q5⟩ := onSome_ex p2
  obtain rfl := (rp2.lk h2 (asI_of q1)).int
  obtain ⟨p, vs, rfl, z1, z2, _⟩ := e2.keep rp1
  refine ⟨p, k, vs, rfl, rfl, z1, by omega, by omega, by rw [dpa_len z2]; exact mill q3, fun z nz => ?_⟩
  have res : Res X.K g2.Hs g2.H (.ref z) (upd g2.H z (.lst (List.replicate k.toNat vs).flatten)) (.own (List.replicate k.toNat xs).flatten) := res_list nz (dpa_rep z2 _)
  obtain ⟨g', a, b, c, d, e, _⟩ := res.go (e1.trans e2) h2
  rw [← d]
  exact hq g' _ _ a b c (by rw [e]; exact q5)

/-! ### x in (1, -1) -/
theorem any_flat {Hs : Hp} {v : V} {d : D} (h : Dp K Hs v d) (f : flatD d = true) : ∀ {vs : List V} {ds : List D}, DpAll K Hs vs ds → ds.all flatD = true → vs.all flatV = true ∧ inV v vs = ds.any fun x => PyData.eqv x d
  | _, _, .nil, _ => ⟨rfl, rfl⟩
  | _, _, .cons (v := u) (d := x) q t, z => by
    rw [List.all_cons, Bool.and_eq_true] at z
    obtain ⟨a, b⟩ := any_flat h f t z.2
    refine ⟨by rw [List.all_cons, flat_dp q z.1, a]; rfl, ?_⟩
    unfold inV at b ⊢
    rw [List.any_cons, List.any_cons, b, eqv_flat q h z.1 f]
theorem sem_inT : Sem2 K (rIn K false) (gInT false) := by
  intro Hs H x y dx dy P Q sm lx ly h k
  unfold gInT at h
  split at h
  · obtain ⟨h1, h2, h3⟩ := h
    have dx' : Dp K Hs x dx := by
      rcases lx with z | ⟨_, _, _, _, rfl, _⟩
      · exact z
      · cases h1
    obtain ⟨p, us, rfl, s1, d1⟩ := ly.tup sm
    obtain ⟨a, b⟩ := any_flat dx' h1 d1 h2
    refine ⟨p, us, rfl, .inr s1, flat_dp dx' h1, a, ?_⟩
    rw [if_neg Bool.false_ne_true, b]
    exact k _ _ _ h3 (by rw [Bool.false_xor]; exact res_bool sm)
  · exact h.elim
theorem sem_notInT : Sem2 K (rIn K true) (gInT true) := by
  intro Hs H x y dx dy P Q sm lx ly h k
  unfold gInT at h
  split at h
  · obtain ⟨h1, h2, h3⟩ := h
    have dx' : Dp K Hs x dx := by
      rcases lx with z | ⟨_, _, _, _, rfl, _⟩
      · exact z
      · cases h1
    obtain ⟨p, us, rfl, s1, d1⟩ := ly.tup sm
    obtain ⟨a, b⟩ := any_flat dx' h1 d1 h2
    refine ⟨p, us, rfl, .inr s1, flat_dp dx' h1, a, ?_⟩
    rw [if_pos rfl, b]
    exact k _ _ _ h3 (by rw [Bool.true_xor]; exact res_bool sm)
  · exact h.elim
/-- x is True -/
def gIsB (neg : Bool) : G2 := fun x y P => match x, y with
  | .bool i, .bool j => P (.val (.bool (xor neg (decide (i = j)))))
  | _, _ => False
theorem sem_isB : Sem2 K rIsB (gIsB false) := by
  intro Hs H x y dx dy P Q sm lx ly h k
  unfold gIsB at h
  split at h
  · obtain rfl := lx.bool
    obtain rfl := ly.bool
    exact ⟨_, _, rfl, rfl, k _ _ _ h (by rw [Bool.false_xor]; exact res_bool sm)⟩
  · exact h.elim
theorem sem_notB : Sem2 K rNotB (gIsB true) := by
  intro Hs H x y dx dy P Q sm lx ly h k
  unfold gIsB at h
  split at h
  · obtain rfl := lx.bool
    obtain rfl := ly.bool
    exact ⟨_, _, rfl, rfl, k _ _ _ h (by rw [Bool.true_xor]; exact res_bool sm)⟩
  · exact h.elim

/-! ### built-ins -/
def gLen : GB := fun ds P => match ds with
  | [.list xs] => P (.val (.int (xs.length : Nat)))
  | [.tuple xs] => P (.val (.int (xs.length : Nat)))
  | _ => False
theorem lk1 {Hs H : Hp} {vs : List V} {d : D} (h : SemB.LkAll K Hs H vs [d]) : ∃ v, vs = [v] ∧ Lk K Hs H v d := by
  match vs, h with
  | [v], h => exact ⟨v, rfl, h.1⟩
theorem lk2 {Hs H : Hp} {vs : List V} {d e : D} (h : SemB.LkAll K Hs H vs [d, e]) : ∃ v u, vs = [v, u] ∧ Lk K Hs H v d ∧ Lk K Hs H u e := by
  match vs, h with
  | [v, u], h => exact ⟨v, u, rfl, h.1, h.2.1⟩
theorem sem_len : SemB K (fun xs H Q => ∃ p ys, xs = [.ref p] ∧ (SqL K H p ys ∨ SqT K H p ys) ∧ Q (.int ys.length) H) gLen := by
  intro Hs H xs ds P Q sm l h k
  unfold gLen at h
  split at h
  · obtain ⟨v, rfl, lk⟩ := lk1 l
    obtain ⟨p, vs, rfl, s1, d1⟩ := lk.lst sm
    exact ⟨p, vs, rfl, .inl s1, k _ _ _ h (by rw [dpa_len d1]; exact res_int sm)⟩
  · obtain ⟨v, rfl, lk⟩ := lk1 l
    obtain ⟨p, vs, rfl, s1, d1⟩ := lk.tup sm
    exact ⟨p, vs, rfl, .inr s1, k _ _ _ h (by rw [dpa_len d1]; exact res_int sm)⟩
  · exact h.elim
def gAbs : GB := fun ds P => match ds with
  | [.int i] => P (.val (.int (i.natAbs : Nat)))
  | _ => False
theorem sem_abs : SemB K (fun xs H Q => ∃ i, xs = [.int i] ∧ Q (.int (if i < 0 then -i else i)) H) gAbs := by
  intro Hs H xs ds P Q sm l h k
  unfold gAbs at h
  split at h
  · obtain ⟨v, rfl, lk⟩ := lk1 l
    obtain rfl := lk.int
    rename_i i
    refine ⟨i, rfl, k _ _ _ h ?_⟩
    rw [show (if i < 0 then -i else i) = (i.natAbs : Int) by split <;> omega]
    exact res_int sm
  · exact h.elim
def gMax2 : GB := fun ds P => match ds with
  | [.int i, .int j] => P (.val (.int (max i j)))
  | _ => False
def gMin2 : GB := fun ds P => match ds with
  | [.int i, .int j] => P (.val (.int (min i j)))
  | _ => False
theorem sem_max2 : SemB K (fun xs H Q => ∃ i j, xs = [.int i, .int j] ∧ Q (.int (if j > i then j else i)) H) gMax2 := by
  intro Hs H xs ds P Q sm l h k
  unfold gMax2 at h
  split at h
  · obtain ⟨v, u, rfl, l1, l2⟩ := lk2 l
    obtain rfl := l1.int
    obtain rfl := l2.int
    rename_i i j
    refine ⟨i, j, rfl, k _ _ _ h ?_⟩
    rw [show (if j > i then j else i) = max i j by split <;> omega]
    exact res_int sm
  · exact h.elim
theorem sem_min2 : SemB K (fun xs H Q => ∃ i j, xs = [.int i, .int j] ∧ Q (.int (if j < i then j else i)) H) gMin2 := by
  intro Hs H xs ds P Q sm l h k
  unfold gMin2 at h
  split at h
  · obtain ⟨v, u, rfl, l1, l2⟩ := lk2 l
    obtain rfl := l1.int
    obtain rfl := l2.int
    rename_i i j
    refine ⟨i, j, rfl, k _ _ _ h ?_⟩
    rw [show (if j < i then j else i) = min i j by split <;> omega]
    exact res_int sm
  · exact h.elim
def gInt : GB := fun ds P => match ds with
  | [.int i] => P (.val (.int i))
  | [.bool b] => P (.val (.int (if b then 1 else 0)))
  | _ => False
theorem sem_int : SemB K (fun xs H Q => (∃ i, xs = [.int i] ∧ Q (.int i) H) ∨ ∃ k, xs = [.bl k] ∧ Q (.int (if k then 1 else 0)) H) gInt := by
  intro Hs H xs ds P Q sm l h k
  unfold gInt at h
  split at h
  · obtain ⟨v, rfl, lk⟩ := lk1 l
    obtain rfl := lk.int
    exact .inl ⟨_, rfl, k _ _ _ h (res_int sm)⟩
  · obtain ⟨v, rfl, lk⟩ := lk1 l
    obtain rfl := lk.bool
    exact .inr ⟨_, rfl, k _ _ _ h (res_int sm)⟩
  · exact h.elim
def gSum : GB := fun ds P => ∃ ns : List Int, ds = [.list (ns.map .int)] ∧ P (.val (.int ns.sum))
theorem sem_sum : SemB K (rSum K) gSum := by
  intro Hs H xs ds P Q sm l h k
  obtain ⟨ns, rfl, h⟩ := h
  obtain ⟨v, rfl, lk⟩ := lk1 l
  obtain ⟨p, vs, rfl, s1, d1⟩ := lk.lst sm
  obtain rfl := dpa_ints d1
  exact ⟨p, ns, rfl, s1, k _ _ _ h (res_int sm)⟩
def gMaxL : GB := fun ds P => ∃ ns : List Int, ds = [.list (ns.map .int)] ∧ 0 < ns.length ∧ ∀ m, m ∈ ns → (∀ y, y ∈ ns → y ≤ m) → P (.val (.int m))
def gMinL : GB := fun ds P => ∃ ns : List Int, ds = [.list (ns.map .int)] ∧ 0 < ns.length ∧ ∀ m, m ∈ ns → (∀ y, y ∈ ns → m ≤ y) → P (.val (.int m))
theorem sem_maxL : SemB K (rMax K) gMaxL := by
  intro Hs H xs ds P Q sm l h k
  obtain ⟨ns, rfl, h0, h⟩ := h
  obtain ⟨v, rfl, lk⟩ := lk1 l
  obtain ⟨p, vs, rfl, s1, d1⟩ := lk.lst sm
  obtain rfl := dpa_ints d1
  exact ⟨p, ns, rfl, s1, h0, fun m h1 h2 => k _ _ _ (h m h1 h2) (res_int sm)⟩
theorem sem_minL : SemB K (rMin K) gMinL := by
  intro Hs H xs ds P Q sm l h k
  obtain ⟨ns, rfl, h0, h⟩ := h
  obtain ⟨v, rfl, lk⟩ := lk1 l
  obtain ⟨p, vs, rfl, s1, d1⟩ := lk.lst sm
  obtain rfl := dpa_ints d1
  exact ⟨p, ns, rfl, s1, h0, fun m h1 h2 => k _ _ _ (h m h1 h2) (res_int sm)⟩
def gAny : GB := fun ds P => ∃ bs : List Bool, ds = [.list (bs.map .bool)] ∧ P (.val (.bool (bs.any id)))
def gAll : GB := fun ds P => ∃ bs : List Bool, ds = [.list (bs.map .bool)] ∧ P (.val (.bool (bs.all id)))
theorem sem_any : SemB K (rAny K) gAny := by
  intro Hs H xs ds P Q sm l h k
  obtain ⟨ns, rfl, h⟩ := h
  obtain ⟨v, rfl, lk⟩ := lk1 l
  obtain ⟨p, vs, rfl, s1, d1⟩ := lk.lst sm
  obtain rfl := dpa_bools d1
  exact ⟨p, ns, rfl, s1, k _ _ _ h (res_bool sm)⟩
theorem sem_all : SemB K (rAll K) gAll := by
  intro Hs H xs ds P Q sm l h k
  obtain ⟨ns, rfl, h⟩ := h
  obtain ⟨v, rfl, lk⟩ := lk1 l
  obtain ⟨p, vs, rfl, s1, d1⟩ := lk.lst sm
  obtain rfl := dpa_bools d1
  exact ⟨p, ns, rfl, s1, k _ _ _ h (res_bool sm)⟩
def gList : GB := fun ds P => match ds with
  | [.list xs] => P (.own xs)
  | [.tuple xs] => P (.own xs)
  | _ => False
theorem sem_list : SemB K (fun xs H Q => ∃ p ys, xs = [.ref p] ∧ (SqL K H p ys ∨ SqT K H p ys) ∧ ∀ l, H l = none → Q (.ref l) (upd H l (.lst ys))) gList := by
  intro Hs H xs ds P Q sm l h k
  unfold gList at h
  split at h
  · obtain ⟨v, rfl, lk⟩ := lk1 l
    obtain ⟨p, vs, rfl, s1, d1⟩ := lk.lst sm
    exact ⟨p, vs, rfl, .inl s1, fun z nz => k _ _ _ h (res_list nz d1)⟩
  · obtain ⟨v, rfl, lk⟩ := lk1 l
    obtain ⟨p, vs, rfl, s1, d1⟩ := lk.tup sm
    exact ⟨p, vs, rfl, .inr s1, fun z nz => k _ _ _ h (res_list nz d1)⟩
  · exact h.elim
/-- sorted of ints, fewer than 64 -/
def gSorted : GB := fun ds P => ∃ ns : List Int, ds = [.list (ns.map .int)] ∧ ns.length < 64 ∧ ∀ ns' : List Int, ns'.Perm ns → ns'.Pairwise (· ≤ ·) → P (.own (ns'.map .int))
theorem sem_sorted : SemB K (rSorted K) gSorted := by
  intro Hs H xs ds P Q sm l h k
  obtain ⟨ns, rfl, h0, h⟩ := h
  obtain ⟨v, rfl, lk⟩ := lk1 l
  obtain ⟨p, vs, rfl, s1, d1⟩ := lk.lst sm
  obtain rfl := dpa_ints d1
  exact ⟨p, ns, rfl, s1, h0, fun ns' z h1 h2 nz => k _ _ _ (h ns' h1 h2) (res_list nz (dpa_of_ints ns'))⟩

/-! ### isinstance(x, a built-in type) -/
def isTy (T : String) : D → Bool
  | .none => T == "NoneType" || T == "object"
  | .bool _ => T == "bool" || T == "int" || T == "object"
  | .int _ => T == "int" || T == "object"
  | .str _ => T == "str" || T == "object"
  | .list _ => T == "list" || T == "object"
  | .tuple _ => T == "tuple" || T == "object"
  | .dict _ => T == "dict" || T == "object"
structure IsK (T : String) : Prop where
  kit : ∀ S ∈ ["NoneType", "bool", "int", "str", "list", "tuple"], kitB S T = some (match S with
    | "NoneType" => isTy T .none
    | "bool" => isTy T (.bool true)
    | "int" => isTy T (.int 0)
    | "str" => isTy T (.str "")
    | "list" => isTy T (.list [])
    | _ => isTy T (.tuple []))
theorem isK_int : IsK "int" := ⟨by decide +kernel⟩
theorem isK_bool : IsK "bool" := ⟨by decide +kernel⟩
theorem isK_tuple : IsK "tuple" := ⟨by decide +kernel⟩
theorem isK_list : IsK "list" := ⟨by decide +kernel⟩
theorem isK_str : IsK "str" := ⟨by decide +kernel⟩
theorem tyx_of {H : Hp} {v : V} {d : D} (h : Dp K H v d) : ∃ S, TyX K H v (.type S) ∧ ∀ {T : String}, IsK T → PySem.W.kitOne K (.type S) (.type T) = some (isTy T d) := by
  cases h with
  | non => exact ⟨"NoneType", .base .non, fun h => kit_ty (h.kit "NoneType" (by simp))⟩
  | bl b => exact ⟨"bool", .base (.bl b), fun h => kit_ty (h.kit "bool" (by simp))⟩
  | int i => exact ⟨"int", .base (.int i), fun h => kit_ty (h.kit "int" (by simp))⟩
  | str x => exact ⟨"str", .base (.str x), fun h => kit_ty (h.kit "str" (by simp))⟩
  | lst h1 h2 =>
    refine ⟨"list", ?_, fun h => kit_ty (h.kit "list" (by simp))⟩
    rcases h1 with (h1 | ⟨o, h1⟩) | ⟨o, its, n, h1, h2, _⟩
    · exact .base (.lst h1)
    · exact .base (.frz h1)
    · exact .kList h1 h2
  | tup h1 h2 =>
    refine ⟨"tuple", ?_, fun h => kit_ty (h.kit "tuple" (by simp))⟩
    rcases h1 with (h1 | ⟨o, h1⟩) | ⟨o, its, n, h1, h2, _⟩
    · exact .base (.tup h1)
    · exact .fTuple h1
    · exact .kTuple h1 h2
def gIsI (T : String) : G1 := fun x P => P (.val (.bool (isTy T x)))
theorem pv_isi {T : String} {x y : Str} {p q : Pos} {te : TeD} (kt : IsK T) (hg : Gl X x) (hm : X.mg x = none) (hv : bootBuiltins x = some (.builtin "isinstance")) (he : Pv X fx Wx e te) (gT : Gl X y) (mT : X.mg y = none) (vT : bootBuiltins y = some (.type T))
    (hn : x ≠ "__name__" := by decide) (hdb : (x == ("__debug__" : Str)) = false := by decide) (hn2 : y ≠ "__name__" := by decide) (hdb2 : (y == ("__debug__" : Str)) = false := by decide)
    (hs : starEach [e, .Name y q] X.env = (false, eval e X.env) :: starEach [.Name y q] X.env := by rfl) (hs2 : starEach [.Name y q] X.env = (false, eval (.Name y q) X.env) :: starEach [] X.env := by rfl) (hpl : (backTo pos (starEach [.Name y q] X.env)).any (·.1) = false := by rfl) :
    Pv X fx Wx (.Call (.Name x p) [e, .Name y q] [] pos) (tOp1 (gIsI T) te) := by
  refine PE.imp (pe_callB call_isi hg hm hv (pa_cons he (pa_cons (pe_bltn (v := .ty T) gT mT vT rfl hn2 hdb2) pa_nil hs2) hs) hn hdb hs hpl) fun σ H Q h => ?_
  refine op1_imp (r := fun x H1 Q => ∃ (x' c : V) (t u : Value) (b : Bool), [x, .ty T] = [x', c] ∧ ClsV c u ∧ TyX X.K H1 x' t ∧ PySem.W.kitOne X.K t u = some b ∧ Q (.bl b) H1) (op := gIsI T) (fun Hs H x dx P Q sm lx h k => ?_) σ H Q h
  obtain ⟨S, ty, kit⟩ := tyx_of (lx.dp sm)
  exact ⟨x, .ty T, .type S, .type T, _, rfl, .ty T, ty, kit kt, k _ _ _ h (res_bool sm)⟩

/-! ### methods that change a list -/
def mAppend : GM := fun xs ds P => match ds with
  | [d] => xs.length < 1000000 ∧ P (xs ++ [d]) .none
  | _ => False
theorem semM_append : SemM K rAppend mAppend := by
  intro Hs H p vs us xs ds P Q sm hp dv du h k
  unfold mAppend at h
  split at h
  case h_2 => exact h.elim
  obtain ⟨h1, h2⟩ := h
  match us, du with
  | [u], .cons du .nil => exact ⟨p, vs, u, rfl, rfl, hp, by rw [dpa_len dv]; exact Nat.lt_of_lt_of_le h1 (by decide), k _ _ _ _ h2 (dpa_append dv (dpa_one du)) .non⟩
def mClear : GM := fun xs ds P => match ds with
  | [] => P [] .none
  | _ => False
theorem semM_clear : SemM K rClear mClear := by
  intro Hs H p vs us xs ds P Q sm hp dv du h k
  unfold mClear at h
  split at h
  case h_2 => exact h.elim
  have h2 := h
  cases du
  exact ⟨p, vs, rfl, rfl, hp, k _ _ _ _ h2 .nil .non⟩
def mInsert : GM := fun xs ds P => match ds with
  | [.int i, d] => (0 ≤ i ∧ i ≤ 1000000 ∧ xs.length < 1000000) ∧ P (xs.take i.toNat ++ [d] ++ xs.drop i.toNat) .none
  | _ => False
theorem semM_insert : SemM K (fun x vs H Q => ∃ (l : Addr) (xs : List V) (i : Int) (y : V), x = .ref l ∧ vs = [.int i, y] ∧ H l = some (.lst xs) ∧ xs.length < sizeLine ∧ 0 ≤ i ∧ i < 2 ^ 63 ∧
    Q .non (upd H l (.lst (xs.take i.toNat ++ [y] ++ xs.drop i.toNat)))) mInsert := by
  intro Hs H p vs us xs ds P Q sm hp dv du h k
  unfold mInsert at h
  split at h
  case h_2 => exact h.elim
  obtain ⟨⟨h1, h2, h3⟩, h4⟩ := h
  match us, du with
  | [_, u], .cons (.int _) (.cons du .nil) => exact ⟨p, vs, _, u, rfl, rfl, hp, by rw [dpa_len dv]; exact Nat.lt_of_lt_of_le h3 (by decide), h1, by omega, k _ _ _ _ h4 (dpa_append (dpa_append (dpa_take _ dv) (dpa_one du)) (dpa_drop _ dv)) .non⟩
/-- extend by any list -/
theorem list_extendW (l : Addr) (items : Array Value) (n : Nat) (b : Addr) (items2 : Array Value) (n2 : Nat) (sl2 : Array (Option Value)) (hc0 : ¬(!items.isEmpty && Builtin.List.listTooLong (items.size + items2.size)) = true) (hc1 : items.size ≤ sizeLine) (hs2 : items.size + items2.size ≤ sizeLine + 1) :
    Meets (Builtin.«list.extend» ⟨[.ref l, .ref b], []⟩) (fun _ R s => s.heap.get? l = some { cls := .type "list", dict := none, data := .seq items n, slots := #[] } ∧ s.heap.get? b = some { cls := .type "list", dict := none, data := .seq items2 n2, slots := sl2 } ∧ R (.ok (.ret Value.none)) { s with heap := s.heap.update l (Obj.mapSeq fun x => x ++ items2), toks := s.toks }) :=
  .of_wp fun prog w A R s h => by
    obtain ⟨hp, g, d, tk, os⟩ := s; obtain ⟨hl, hb, h⟩ := h; have f1 := AutoSeq1.idx_int; have f2 := AutoSeq1.sub_tuple_tuple; have f3 := AutoSeq1.sub_list_list; have f4 := AutoSeq1.sub_tuple_list; have f5 := AutoSeq1.sub_list_tuple;
    have hz' : (items ++ items2).size ≤ sizeLine + 1 := by rw [Array.size_append]; exact hs2
    wp_walk using (wpAny_updateSeq hl rfl (hz := hc1) (_hz' := hz')), wpAny_loadPart' hl, wpAny_loadPart' hb; exact ⟨_, rfl, h⟩
def rExtendS (K : PySem.W.Frag) : V → List V → Hp → VK → Prop := fun x vs H Q => ∃ l b xs zs, x = .ref l ∧ vs = [.ref b] ∧ H l = some (.lst xs) ∧ SqL K H b zs ∧ xs.length + zs.length ≤ sizeLine ∧ Q .non (upd H l (.lst (xs ++ zs)))
theorem mt_extendS : MtR X "list.extend" (rExtendS X.K) := by
  intro pins s σ H x vs v us Q I rx rv h
  obtain ⟨l, b, xs, zs, rfl, rfl, hH, hB, hz, q⟩ := h
  cases rx
  obtain ⟨u, rfl, ru⟩ := rv.one
  cases ru
  obtain ⟨z, its, n, r, hl, e⟩ := I.lstM hH
  obtain ⟨its2, r2, ⟨⟨cls2, dd2, data2, sl2⟩, n2, ho2, hc2, hdd2, hd2⟩, z2⟩ := I.list hB
  simp only at hc2 hd2 hdd2
  subst hc2 hd2 hdd2
  have hl2 := r2.length
  have hsz : its.toArray.size + its2.toArray.size ≤ sizeLine := by rw [List.size_toArray, List.size_toArray]; omega
  have hlong : ¬ (!its.toArray.isEmpty && Builtin.List.listTooLong (its.toArray.size + its2.toArray.size)) = true := by
    rw [notLongL hsz, Bool.and_false]
    exact Bool.false_ne_true
  refine call_meets F.slot_list_extend ⟨_, e, rfl⟩ F.entry_list_extend (F.args_list_extend_2 _ _)
    (list_extendW l its.toArray n b its2.toArray n2 sl2 hlong (by rw [List.size_toArray]; omega) (by omega)) ⟨e, ho2, ?_⟩
  refine ⟨.non, _, I.lset (its' := its ++ its2) hH e (by simp) (r.append r2) ?_, rfl, q⟩
  rw [List.length_append]
  omega
def mExtend : GM := fun xs ds P => match ds with
  | [.list es] => xs.length + es.length ≤ 1000000 ∧ P (xs ++ es) .none
  | _ => False
theorem semM_extend : SemM K (rExtendS K) mExtend := by
  intro Hs H p vs us xs ds P Q sm hp dv du h k
  unfold mExtend at h
  split at h
  case h_2 => exact h.elim
  obtain ⟨h1, h2⟩ := h
  match us, du with
  | [u], .cons du .nil =>
    cases du with
    | lst s1 s2 =>
      rename_i a ws
      exact ⟨p, a, vs, ws, rfl, rfl, hp, sm.seq s1, by rw [dpa_len dv, dpa_len s2]; exact mill h1, k _ _ _ _ h2 (dpa_append dv s2) .non⟩

/-! ### methods that ask a list -/
abbrev GQ := List D → List D → (R → Prop) → Prop
def SemQ (K : PySem.W.Frag) (r : V → List V → Hp → VK → Prop) (op : GQ) : Prop := ∀ (Hs H : Hp) (x : V) (us : List V) (xs ds : List D) (P : R → Prop) (Q : VK), Same Hs H → Lk K Hs H x (.list xs) → SemB.LkAll K Hs H us ds → op xs ds P → (∀ v H' rr, P rr → Res K Hs H v H' rr → Q v H') → r x us H Q
def tAsk (op : GQ) (te : TeD) (t : TaD) : TeD := fun ρ P PX => te ρ (fun r ρ1 => onSome (asL (rd ρ1 r)) fun _ => t ρ1 (fun rs ρ2 => onSome (asL (rd ρ2 r)) fun xs => onSome (rdAll ρ2 rs) fun ds => op xs ds (fun rr => P rr ρ2)) PX) PX
theorem pv_ask {o : Expr} {name : Str} {id : String} {r : V → List V → Hp → VK → Prop} {op : GQ} {te : TeD} {t : TaD} {apos cpos : Pos} (pa : PlainAttrs "list") (slot : Slot "list" name id) (hty : typeOf (.builtin id) = pure (.type "method_descriptor")) (hm : MtR X id r) (hs : SemQ X.K r op)
    (ho : Pv X fx Wx o te) (ha : PvA X fx Wx (e :: es) t)
    (hbase : attributeBase o name X.env (eval o X.env) = eval o X.env := by rfl)
    (hfew : ((backTo cpos (starEach (e :: es) X.env)).all (fun x => !x.1) && (backToKw cpos (keywordEach [] X.env)).all (fun x => x.1.isSome)
      && decide ((e :: es).length + ([] : List Keyword).length + (if ([] : List Keyword).isEmpty then 0 else 1) < 30)) = true := by rfl)
    (hline : (apos.endLine == cpos.line) = true := by rfl) (hst : starEach (e :: es) X.env = (false, eval e X.env) :: starEach es X.env := by rfl) (hplain : (backTo cpos (starEach es X.env)).any (·.1) = false := by rfl) :
    Pv X fx Wx (.Call (.Attribute o name apos) (e :: es) [] cpos) (tAsk op te t) := by
  refine PE.imp (pe_bm pa slot hty hm ho ha hbase hfew hline hst hplain) fun σ H Q h => ?_
  obtain ⟨Hs, ρ, P, PX, hr, ht, hq, hx⟩ := h
  refine ⟨Hs, ρ, _, PX, hr, ht, fun g1 v r h1 e1 rp1 p1 => ?_, hx⟩
  obtain ⟨xs, q1, p1⟩ := onSome_ex p1
  obtain ⟨p, vs, rfl, s1, d1⟩ := (rp1.lk h1 (asL_of q1)).lst h1.same
  obtain ⟨Hs1, ρ1, σ1, H1⟩ := g1
  obtain rfl : σ1 = σ := e1.sg
  refine ⟨.inl ⟨rfl, vs, s1⟩, Hs1, ρ1, _, PX, h1, p1, fun g2 us rs h2 e2 rp2 p2 => ?_, hx.go e1.ext⟩
  obtain ⟨xs', w1, p2⟩ := onSome_ex p2
  obtain ⟨ds, w2, w3⟩ := onSome_ex p2
  have w1 := asL_of w1
  refine hs g2.Hs g2.H _ us xs' ds _ Q h2.same ((e2.keep rp1).lk h2 w1) (rp2.lk h2 w2) w3 fun v H' rr z res => ?_
  obtain ⟨g', a, b, c, rfl, d, _⟩ := res.go (e1.trans e2) h2
  exact hq g' v rr a b c (by rw [d]; exact z)
/-- xs.index(x): the first place -/
def qIndex : GQ := fun xs ds P => ∃ d j z, ds = [d] ∧ SeqAt.shaped (.list xs) = true ∧ SeqAt.shaped d = true ∧ xs[j]? = some z ∧ PyData.eqv z d = true ∧ (∀ (m : Nat) (z' : D), m < j → xs[m]? = some z' → PyData.eqv z' d = false) ∧ P (.val (.int (j : Nat)))
theorem semQ_index : SemQ K (rIndexD K) qIndex := by
  intro Hs H x us xs ds P Q sm lx lu h k
  obtain ⟨d, j, z, rfl, h1, h2, h3, h4, h5, h6⟩ := h
  obtain ⟨u, rfl, lv⟩ := lk1 lu
  have dp := lx.dp sm
  obtain ⟨p, vs, rfl, _⟩ := lx.lst sm
  exact ⟨p, u, d, xs, j, z, rfl, rfl, dp, lv.dp sm, h1, h2, h3, h4, h5, k _ _ _ h6 (res_int sm)⟩
def qCount : GQ := fun xs ds P => ∃ (ns : List Int) (k : Int), xs = ns.map .int ∧ ds = [.int k] ∧ P (.val (.int (ns.count k : Nat)))
theorem semQ_count : SemQ K (rCntI K) qCount := by
  intro Hs H x us xs ds P Q sm lx lu h k
  obtain ⟨ns, i, rfl, rfl, h6⟩ := h
  obtain ⟨u, rfl, lv⟩ := lk1 lu
  obtain rfl := lv.int
  obtain ⟨p, vs, rfl, s1, d1⟩ := lx.lst sm
  obtain rfl := dpa_ints d1
  exact ⟨p, ns, i, rfl, rfl, s1, k _ _ _ h6 (res_int sm)⟩
end
end RR

/-! LayI: calls by bundles, chains, += and the law's end. -/
namespace RR
open PySem PySem.Spec L2
section
variable {X : Cx} {fx : List Nat} {Wx : WX} {e a b c : Expr} {es : List Expr} {pos : Pos} {K : PySem.W.Frag}
theorem pvT_chn_aux {r r' : R2} {g g' : G2} {ta tb tc : TeD} (hs : Sem2 X.K r g) (hs' : Sem2 X.K r' g') (σ : L2.St) (H : Hp) (Q : VK) (h : liftE X fx Wx (tChn g g' ta tb tc) σ H Q) : tChain r r' (liftE X fx Wx ta) (liftE X fx Wx tb) (liftE X fx Wx tc) σ H Q := by
  obtain ⟨Hs, ρ, P, PX, hr, ht, hq, hx⟩ := h
  refine ⟨Hs, ρ, _, PX, hr, ht, fun g1 x ra h1 e1 rp1 p1 => ?_, hx⟩
  obtain ⟨Hs1, ρ1, σ1, H1⟩ := g1
  obtain rfl : σ1 = σ := e1.sg
  refine ⟨Hs1, ρ1, _, PX, h1, p1, fun g2 y rb h2 e2 rp2 p2 => ?_, hx.go e1.ext⟩
  obtain ⟨dx, q1, p2⟩ := onSome_ex p2
  obtain ⟨dy, q2, q3⟩ := onSome_ex p2
  refine hs g2.Hs g2.H x y dx dy _ _ h2.same ((e2.keep rp1).lk h2 q1) (rp2.lk h2 q2) q3 fun v H' rr z res => ?_
  obtain ⟨k, zk, z⟩ := onSome_ex z
  obtain ⟨g3, h3, e3, rp3, rfl, hρ, e23⟩ := res.go (e1.trans e2) h2
  obtain rfl := (rp3.lk h3 (show rd g3.ρ rr = some (.bool k) by rw [hρ]; exact asB_of zk)).bool
  obtain ⟨Hs3, ρ3, σ3, H3⟩ := g3
  obtain rfl : σ3 = σ1 := e3.sg
  have hρ : ρ3 = g2.ρ := hρ
  refine ⟨k, rfl, ?_⟩
  cases k with
  | false =>
    rw [if_neg Bool.false_ne_true]
    refine hq ⟨Hs3, ρ3, σ3, H3⟩ (.bl false) (.val (.bool false)) h3 e3 (Dp.bl false) ?_
    show P (.val (.bool false)) ρ3
    rw [hρ]; exact z
  | true =>
    rw [if_pos rfl]
    refine ⟨Hs3, ρ3, _, PX, h3, by rw [hρ]; exact z, fun g4 w rc h4 e4 rp4 p4 => ?_, hx.go e3.ext⟩
    obtain ⟨dy', y1, p4⟩ := onSome_ex p4
    obtain ⟨dz, y2, y3⟩ := onSome_ex p4
    have rb4 : Rep X.K g4 _ y rb := (e23.trans e4).keep rp2
    refine hs' g4.Hs g4.H y w dy' dz _ _ h4.same (rb4.lk h4 y1) (rp4.lk h4 y2) y3 fun v H' rr z res => ?_
    obtain ⟨g', a, b, c, rfl, d, _⟩ := res.go (e3.trans e4) h4
    exact hq g' v rr a b c (by rw [d]; exact z)
theorem pv_chn {op op' : CmpOp} {r r' : R2} {g g' : G2} {ta tb tc : TeD} (ho : OpR X (compareOp op) r) (hs : Sem2 X.K r g) (ho' : OpR X (compareOp op') r') (hs' : Sem2 X.K r' g') (ha : Pv X fx Wx a ta) (hb : Pv X fx Wx b tb) (hc : Pv X fx Wx c tc)
    (hm : lastMarks [op, op'] [b, c] = false := by with_unfolding_all rfl) : Pv X fx Wx (.Compare a [op, op'] [b, c] pos) (tChn g g' ta tb tc) := PE.imp (pe_chain ho ho' ha hb hc hm) (pvT_chn_aux hs hs')
theorem pvT_chn {op op' : CmpOp} {r r' : R2} {g g' : G2} {ta tb tc : TeD} (ho : OpR X (compareOp op) r) (hs : Sem2 X.K r g) (ho' : OpR X (compareOp op') r') (hs' : Sem2 X.K r' g') (ha : Pv X fx Wx a ta) (hb : Pv X fx Wx b tb) (hc : Pv X fx Wx c tc)
    (hm : lastMarks [op, op'] [b, c] = false := by with_unfolding_all rfl) : PvT X fx Wx (.Compare a [op, op'] [b, c] pos) (tTst (tChn g g' ta tb tc)) := by
  refine PT.imp (pt_chain ho ho' ha hb hc hm) fun σ H Q h => ?_
  obtain ⟨Hs, ρ, P, PX, hr, ht, hq, hx⟩ := h
  refine pvT_chn_aux (X := X) (fx := fx) (Wx := Wx) (g := g) (g' := g') (ta := ta) (tb := tb) (tc := tc) hs hs' σ H _ ⟨Hs, ρ, _, PX, hr, ht, fun g1 x ra h1 e1 rp1 p1 => ?_, hx⟩
  obtain ⟨b, q1, q2⟩ := onSome_ex p1
  obtain rfl := (rp1.lk h1 (asB_of q1)).bool
  exact ⟨b, rfl, hq g1 b h1 e1 q2⟩

/-- x += e, ints -/
def intAt (ρ : Rho) (i : Nat) : Option Int := match ρ[i]? with
  | some (some (.val (.int m))) => some m
  | _ => none
theorem intAt_of {ρ : Rho} {i : Nat} {m : Int} (h : intAt ρ i = some m) : ρ[i]? = some (some (.val (.int m))) := by
  unfold intAt at h
  split at h
  · cases h; assumption
  · cases h
def tAugD (i : Nat) (te : TeD) : TsD := fun DD ρ => onSome (intAt ρ i) fun m => te ρ (fun r ρ1 => onSome (asI (rd ρ1 r)) fun n => DD.nx (ρ1.set i (some (.val (.int (m + n)))))) DD.ex
theorem pv_aug (i : Nat) {x : Str} {te : TeD} {pos' : Pos} (hN : X.N.Nodup) (hi : X.N[i]? = some x) (hx : Loc X.env.scope x) (he : Pv X fx Wx e te) (hf : X.fn x = true ∨ X.env.scope.names.lookup x = some .local := by first | exact .inl rfl | exact .inr rfl | assumption) (hfx : i ∉ fx := by decide) :
    PvS X fx Wx (.AugAssign (.Name x pos') .Add e pos) (tAugD i te) := by
  refine PS.imp (ps_aug hN hi hx he ip_add hf) fun D σ H h => ?_
  obtain ⟨Hs, ρ, DD, hr, ht, hq⟩ := h
  obtain ⟨m, hm, ht⟩ := onSome_ex ht
  have hm := intAt_of hm
  obtain ⟨v, z1, z2⟩ := hr.val i _ hm
  obtain rfl := dpa_int z2
  refine ⟨_, z1, Hs, ρ, _, _, hr, ht, fun g1 v r h1 e1 rp1 p1 => ?_, hq.ex⟩
  obtain ⟨n, q1, q2⟩ := onSome_ex p1
  obtain rfl := (rp1.lk h1 (asI_of q1)).int
  refine ⟨m, n, rfl, rfl, ?_⟩
  have := hq.nx _ (set_val (i := i) (v := .int (m + n)) (d := .int (m + n)) h1 (.int _)) (ext_set_val e1.ext hfx) q2
  simp only [e1.sg] at this
  exact this
/-- a, b, c = x, y, z -/
def tPar3D (i j l : Nat) (ta : TaD) : TsD := fun DD ρ => ta ρ (fun rs ρ1 => ∃ d e f, allV rs = some [d, e, f] ∧ DD.nx (((ρ1.set i (some (.val d))).set j (some (.val e))).set l (some (.val f)))) DD.ex
end

/-! ### defs in bundles -/
section
variable (P : Program) (w : World) (K : PySem.W.Frag) (mg : Str → Option Value) (base : Heap)
/-- a def of the text, as it stands behind the top -/
def Dfn (x : Str) (st : Stmt) (ps : List Str) : Prop := ∃ f fd, Fun K x x st f fd ∧ mg x = some (.ref f) ∧ Binds K fd ps []
/-- a def that keeps a promise -/
def Cal (k : Nat) (x : Str) (ps : List Str) (fx : List Nat) (sp : SpD) : Prop := ∃ f fd, FnOk P w K mg base (L2N.CX P w) k f fd ps (lower K mg fx sp) ∧ mg x = some (.ref f) ∧ PySem.W.keepIn K (.ref f) = true ∧ Binds K fd ps [] ∧
  ∃ oc od osl, K.lookup f = some ⟨oc, od, .func fd, osl⟩
end
section
variable {P : Program} {w : World} {K : PySem.W.Frag} {mg : Str → Option Value} {base : Heap}
theorem cal_of {x : Str} {st : Stmt} {N ps : List Str} {k : Nat} {sp : SpD} {t : TsD} {fx : List Nat} (d : Dfn K mg x st ps) (S : FnScope N ps (defScope st)) (len : ∀ ws Q E, sp ws Q E → ws.length = ps.length)
    (hb : ∀ (f : Addr) (cdv : Value) (A : Around) (outer : List Env) (s : Shared) (H : Hp) (E : XK), Room k (A.deeper (PyProof.Rows.envOfC x (defScope st) s.heap.objs.size f cdv)) →
      PvB (cxOf (L2N.CX P w) P w K mg base N x (defScope st) f cdv A outer s H E) fx (fun cls d _ H => E cls d H) (defBody st) t)
    (hvc : ∀ ws Q E, sp ws Q E → t (endsOf fx ws Q E) (startD N ws)) : Cal P w K mg base (k + 1) x ps fx sp := by
  obtain ⟨f, fd, F, hm, hbd⟩ := d
  obtain ⟨oc, od, kV, doc, pm, an, cdv, ct, osl, h1, h2, h3⟩ := F.ex
  exact ⟨f, fd, fn_okD F S len (fun cdv A outer s H E hr => hb f cdv A outer s H E hr) hvc, hm, F.kp, hbd, oc, od, osl, h2⟩
end
section
variable {X : Cx} {fx : List Nat} {Wx : WX} {e a b c : Expr} {es : List Expr} {pos : Pos} {K : PySem.W.Frag}
theorem pv_callC {j k : Nat} {ps : List Str} {sp : SpD} {x : Str} {p : Pos} {t : TaD} {fxf : List Nat} (C : Cal X.prog X.w X.K X.mg X.base j x ps fxf sp) (hj : j ≤ k) (hr : Room k X.A) (hg : Gl X x)
    (tk : L2N.Takes X Wx) (ha : PvA X fx Wx (e :: es) t) (hdb : (x == ("__debug__" : Str)) = false := by decide)
    (he : starEach (e :: es) X.env = (false, eval e X.env) :: starEach es X.env := by rfl) (hpl : (backTo pos (starEach es X.env)).any (·.1) = false := by rfl) : Pv X fx Wx (.Call (.Name x p) (e :: es) [] pos) (tCallD fxf sp t) := by
  obtain ⟨f, fd, F, hm, hk, hb, _⟩ := C
  exact pv_call (F.mono hj) hr hg hm hk hb tk ha hdb he hpl
theorem room65 {k : Nat} {A : Around} (r : Room k A) : A.units + 65 < cLine := by have := r.un; omega
end
/-- the law: over the script's ints it hands back True -/
def spLaw : SpD := fun ws P _ => ∃ ns : List Int, ws = [.val (.list (ns.map .int))] ∧ ns.length ≤ 63 ∧ P (.val (.bool true)) ws
def spLawH (K : PySem.W.Frag) : Sp := fun vs H Q _ => ∃ (a : Addr) (ns : List Int), vs = [.ref a] ∧ SqL K H a (ns.map V.int) ∧ ns.length ≤ 63 ∧ ∀ H', Q (.bl true) H'
theorem law_of {P : Program} {w : World} {K : PySem.W.Frag} {mg : Str → Option Value} {base : Heap} {k : Nat} {x : Str} {ps : List Str} {f : Addr} (C : Cal P w K mg base k x ps [] spLaw) (hm : mg x = some (.ref f)) {fd' : FuncData} {st : Stmt} (F' : Fun K x x st f fd') : FnOk P w K mg base (L2N.CX P w) k f fd' ps (spLawH K) := by
  obtain ⟨f', fd, F, hm', _, _, oc, od, osl, lk⟩ := C
  rw [hm] at hm'
  cases hm'
  obtain ⟨oc2, od2, kV, doc, pm, an, cdv, ct, osl2, h1, h2, h3⟩ := F'.ex
  rw [lk] at h2
  cases h2
  refine F.imp fun vs H Q E h => ?_
  obtain ⟨a, ns, rfl, hs, hl, q⟩ := h
  refine ⟨H, [.val (.list (ns.map .int))], fun w _ => w = .val (.bool true), fun _ _ => False, ⟨rfl, .refl _, fun i d hd => ?_, fun i xs hx => ?_, fun i j p xs ys h1 _ => ?_, fun i p its hx => ?_, fun i a dd fs hx => ?_, fun i r hx => ?_⟩, fun i w hx => ?_, ⟨ns, rfl, hl, rfl⟩, fun g' v w ws' _ _ r e rp z => ?_, fun _ _ _ _ _ _ _ _ _ _ z => z.elim⟩
  · cases i with
    | zero =>
      simp only [List.map_cons, List.map_nil, List.getElem?_cons_zero, Option.some.injEq, W.val.injEq] at hd
      subst hd
      exact ⟨.ref a, rfl, .lst hs (dpa_of_ints ns)⟩
    | succ i => simp at hd
  · cases i with
    | zero => simp at hx
    | succ i => simp at hx
  · cases h1 with
    | top h1 _ =>
      cases i with
      | zero => simp at h1
      | succ i => simp at h1
    | sub h1 _ =>
      cases i with
      | zero => simp at h1
      | succ i => simp at h1
    | reg h1 _ =>
      cases i with
      | zero => simp at h1
      | succ i => simp at h1
  · cases i with
    | zero => simp at hx
    | succ i => simp at hx
  · cases i with
    | zero => simp at hx
    | succ i => simp at hx
  · cases i with
    | zero => simp at hx
    | succ i => simp at hx
  · cases i with
    | zero => simp at hx; subst hx; trivial
    | succ i => simp at hx
  · subst z
    have rp : Dp K g'.Hs v (.bool true) := rp
    rw [dp_bool rp]
    exact q _

theorem cx_no {P : Program} {w : World} {H : Hp} {s s' : Shared} {e : Value} (h : L2N.CX P w [] H s (fun _ _ _ => False) e s') : False := by
  obtain ⟨_, _, _, _, _, _, _, _, _, _, _, _, z⟩ := h
  exact z
/-! ### a module's constants -/
def cstV : Value → Option D
  | .int i _ => some (.int i)
  | .bool b => some (.bool b)
  | .none => some .none
  | .str x _ => some (.str x)
  | _ => none
def cstD : List Value → Option (List D)
  | [] => some []
  | v :: vs => (cstV v).bind fun d => (cstD vs).map (d :: ·)
def Cst (K : PySem.W.Frag) (mg : Str → Option Value) (x : Str) (d : D) : Prop := ∃ v u, mg x = some u ∧ RelV v u ∧ ∀ Hs, Dp K Hs v d
theorem cstV_ok {K : PySem.W.Frag} {u : Value} {d : D} (h : cstV u = some d) : ∃ v, RelV v u ∧ ∀ Hs, Dp K Hs v d := by
  cases u <;> simp only [cstV, Option.some.injEq, reduceCtorEq] at h
  all_goals subst h
  · exact ⟨.non, rfl, fun _ => .non⟩
  · exact ⟨.bl _, rfl, fun _ => .bl _⟩
  · exact ⟨.int _, ⟨_, rfl⟩, fun _ => .int _⟩
  · exact ⟨.str _, ⟨_, rfl⟩, fun _ => .str _⟩
theorem cstD_ok {K : PySem.W.Frag} : ∀ {us : List Value} {ds : List D}, cstD us = some ds → ∃ vs, Vals vs us ∧ ∀ Hs, DpAll K Hs vs ds
  | [], _, h => by cases h; exact ⟨[], .nil, fun _ => .nil⟩
  | u :: us, ds, h => by
    simp only [cstD, Option.bind_eq_some_iff, Option.map_eq_some_iff] at h
    obtain ⟨d, h1, ds', h2, rfl⟩ := h
    obtain ⟨v, a, b⟩ := cstV_ok (K := K) h1
    obtain ⟨vs, c, e⟩ := cstD_ok (K := K) h2
    exact ⟨v :: vs, .cons a c, fun Hs => .cons (b Hs) (e Hs)⟩
theorem cst_val {K : PySem.W.Frag} {mg : Str → Option Value} {x : Str} {u : Value} {d : D} (hm : mg x = some u) (h : cstV u = some d) : Cst K mg x d := by
  obtain ⟨v, a, b⟩ := cstV_ok (K := K) h
  exact ⟨v, u, hm, a, b⟩
theorem cst_tup {K : PySem.W.Frag} {mg : Str → Option Value} {x : Str} {a : Addr} {o : Obj} {us : List Value} {n : Nat} {ds : List D} (hm : mg x = some (.ref a)) (lk : K.lookup a = some o) (hc : o.cls = .type "tuple") (hd : o.data = .seq us.toArray n) (h : cstD us = some ds) (hl : us.length ≤ 1000000) : Cst K mg x (.tuple ds) := by
  obtain ⟨vs, r, e⟩ := cstD_ok (K := K) h
  exact ⟨.ref a, _, hm, rfl, fun Hs => .tup (.inr ⟨o, us.toArray, n, lk, hc, hd, mill (by simpa using hl), by simpa using r⟩) (e Hs)⟩
theorem Cst.pv {X : Cx} {fx : List Nat} {Wx : WX} {x : Str} {d : D} {pos : Pos} (c : Cst X.K X.mg x d) (hg : Gl X x) (hd : (x == ("__debug__" : Str)) = false := by decide) : Pv X fx Wx (.Name x pos) (tK d) := by
  obtain ⟨v, u, hm, r, k⟩ := c
  exact pv_glob hg hm r k hd
end RR

/-! LayJ: lemmas for the meanings. -/
namespace RR
open PySem PySem.Spec L2
theorem brB {b : Bool} {p q : Prop} (h1 : b = true → p) (h2 : b = false → q) : br b p q := by
  cases b with
  | true => exact h1 rfl
  | false => exact h2 rfl
theorem brD {c : Prop} [Decidable c] {p q : Prop} (h1 : c → p) (h2 : ¬ c → q) : br (decide c) p q := by
  by_cases h : c
  · rw [decide_eq_true h]; exact h1 h
  · rw [decide_eq_false h]; exact h2 h
theorem brT {b : Bool} {p q : Prop} (h : b = true) (k : p) : br b p q := by rw [h]; exact k
theorem brF {b : Bool} {p q : Prop} (h : b = false) (k : q) : br b p q := by rw [h]; exact k
theorem srcN {ρ : Rho} : srcOk [] ρ := fun q hq => nomatch hq
theorem seq_cut {A R : TsD} {DD : EndsD} {ρ : Rho} (I : Rho → Prop) (hA : ∀ k : Rho → Prop, (∀ ρ, I ρ → k ρ) → A { DD with nx := k } ρ) (hR : ∀ ρ, I ρ → R DD ρ) : tSeqD A R DD ρ := hA _ hR
theorem seq_to {A R : TsD} {DD : EndsD} {ρ : Rho} (ρ' : Rho) (h : ∀ k : Rho → Prop, k ρ' → A { DD with nx := k } ρ) (hk : R DD ρ') : tSeqD A R DD ρ := h _ hk
theorem seq_do {A R : TsD} {DD : EndsD} {ρ : Rho} (h : A { DD with nx := R DD } ρ) : tSeqD A R DD ρ := h
theorem seq_set {i : Nat} {te : TeD} {R : TsD} {DD : EndsD} {ρ : Rho} {d : D} (h : ∀ P PX, P (.val d) ρ → te ρ P PX) (k : R DD (ρ.set i (some (.val d)))) : tSeqD (tSetD i te) R DD ρ := h _ _ k
theorem set_do {i : Nat} {te : TeD} {DD : EndsD} {ρ : Rho} {d : D} (h : ∀ P PX, P (.val d) ρ → te ρ P PX) (k : DD.nx (ρ.set i (some (.val d)))) : tSetD i te DD ρ := h _ _ k
theorem atI_ints {ns : List Int} {k : Int} (h0 : 0 ≤ k) (h1 : k < ns.length) : ∃ n, n ∈ ns ∧ atI (ns.map PyData.int) k = some (.int n) := by
  obtain ⟨j, rfl⟩ : ∃ j : Nat, k = (j : Int) := ⟨k.toNat, by omega⟩
  have hj : j < ns.length := by omega
  exact ⟨ns[j], List.getElem_mem hj, atI_nat (by rw [List.getElem?_map, List.getElem?_eq_getElem hj]; rfl)⟩
theorem loop_ind {ss : Srcs} {g : TgD} {tb : TsD} {DD : EndsD} (I : List D → Rho → Prop)
    (hs : ∀ x xs ρ, I (x :: xs) ρ → ∀ k : Rho → Prop, (∀ ρ2, I xs ρ2 → k ρ2) → g x ρ fun ρ1 => tb { DD with nx := fun ρ2 => srcOk ss ρ2 ∧ k ρ2, ct := fun ρ2 => srcOk ss ρ2 ∧ k ρ2, bk := DD.nx } ρ1)
    (hd : ∀ ρ, I [] ρ → DD.nx ρ) : ∀ items ρ, I items ρ → loopD ss g tb DD items ρ
  | [], ρ, h => hd ρ h
  | x :: xs, ρ, h => hs x xs ρ h _ (loop_ind I hs hd xs)
theorem rngD_zero (lo : Int) : rngD lo 0 = [] := rfl
theorem rngD_succ (lo : Int) (n : Nat) : rngD lo (n + 1) = .int lo :: rngD (lo + 1) n := by
  unfold rngD
  rw [List.range_succ_eq_map, List.map_cons, List.map_map]
  congr 1
  · congr 1; omega
  · apply List.map_congr_left
    intro i _
    show PyData.int _ = PyData.int _
    congr 1
    show lo + ((i + 1 : Nat) : Int) = lo + 1 + (i : Int)
    omega
/-- over a range: I by the next number -/
theorem loop_rng {ss : Srcs} {g : TgD} {tb : TsD} {DD : EndsD} (I : Int → Rho → Prop) (hi : Int)
    (hs : ∀ (i : Int) ρ, i < hi → I i ρ → ∀ k : Rho → Prop, (∀ ρ2, I (i + 1) ρ2 → k ρ2) → g (.int i) ρ fun ρ1 => tb { DD with nx := fun ρ2 => srcOk ss ρ2 ∧ k ρ2, ct := fun ρ2 => srcOk ss ρ2 ∧ k ρ2, bk := DD.nx } ρ1)
    (hd : ∀ ρ, I hi ρ → DD.nx ρ) : ∀ (n : Nat) (lo : Int) ρ, hi = lo + n → I lo ρ → loopD ss g tb DD (rngD lo n) ρ
  | 0, lo, ρ, e, h => by
    have : hi = lo := by omega
    subst this
    exact hd ρ h
  | n + 1, lo, ρ, e, h => by
    rw [rngD_succ]
    exact hs lo ρ (by omega) h _ fun ρ2 h2 => loop_rng I hi hs hd n (lo + 1) ρ2 (by omega) h2
/-- over encoded things: I by what is gone through and what is left -/
theorem loop_map {α : Type} {ss : Srcs} {g : TgD} {tb : TsD} {DD : EndsD} (f : α → D) (I : List α → List α → Rho → Prop)
    (hs : ∀ pre x post ρ, I pre (x :: post) ρ → ∀ k : Rho → Prop, (∀ ρ2, I (pre ++ [x]) post ρ2 → k ρ2) → g (f x) ρ fun ρ1 => tb { DD with nx := fun ρ2 => srcOk ss ρ2 ∧ k ρ2, ct := fun ρ2 => srcOk ss ρ2 ∧ k ρ2, bk := DD.nx } ρ1)
    (xs : List α) (hd : ∀ ρ, I xs [] ρ → DD.nx ρ) : ∀ (post pre : List α) ρ, xs = pre ++ post → I pre post ρ → loopD ss g tb DD (post.map f) ρ
  | [], pre, ρ, e, h => by
    rw [List.append_nil] at e
    subst e
    exact hd ρ h
  | x :: post, pre, ρ, e, h => hs pre x post ρ h _ fun ρ2 h2 => loop_map f I hs xs hd post (pre ++ [x]) ρ2 (by simpa using e) h2
/-- a comprehension: I by what is left and what is made -/
theorem lc_ind {ss : Srcs} {vs : List Nat} {g : TgD} {tt : TtD} {te : TeD} {P : PostE} (I : List D → List D → Rho → Prop)
    (hs : ∀ x xs acc ρ, I (x :: xs) acc ρ → ∀ k : List D → Rho → Prop, (∀ acc2 ρ2, I xs acc2 ρ2 → k acc2 ρ2) → noOwn ρ vs ∧ acc.length < 1000000 ∧ g x (wipeD ρ vs) (fun ρ1 => tt ρ1 (fun b ρ2 =>
      br b (te ρ2 (fun r ρ3 => onSome (fz ρ3 r) fun p => srcOk ss (unwipe ρ p.2 vs) ∧ k (acc ++ [p.1]) (unwipe ρ p.2 vs)) noX)
        (srcOk ss (unwipe ρ ρ2 vs) ∧ k acc (unwipe ρ ρ2 vs))) noX))
    (hd : ∀ acc ρ, I [] acc ρ → P (.own acc) ρ) : ∀ items acc ρ, I items acc ρ → lcD ss vs g tt te P items acc ρ
  | [], acc, ρ, h => hd acc ρ h
  | x :: xs, acc, ρ, h => hs x xs acc ρ h _ (lc_ind I hs hd xs)

/-! ### sizes -/
def Bd (n : Nat) (x : Int) : Prop := x.natAbs < 2 ^ n
instance {n : Nat} {x : Int} : Decidable (Bd n x) := inferInstanceAs (Decidable (x.natAbs < 2 ^ n))
theorem Bd.mono {n m : Nat} {x : Int} (h : Bd n x) (k : n ≤ m) : Bd m x := Nat.lt_of_lt_of_le h (Nat.pow_le_pow_right (by decide) k)
theorem Bd.log {n : Nat} {x : Int} (h : Bd n x) : x.natAbs.log2 ≤ n := by
  unfold Bd at h
  by_cases e : x.natAbs = 0
  · rw [e]; simp
  · exact Nat.le_of_lt ((Nat.log2_lt e).mpr h)
theorem Bd.mul {n m : Nat} {x y : Int} (h : Bd n x) (k : Bd m y) : Bd (n + m) (x * y) := by
  unfold Bd at *
  rw [Int.natAbs_mul, Nat.pow_add]
  exact Nat.mul_lt_mul'' h k
theorem Bd.add {n m : Nat} {x y : Int} (h : Bd n x) (k : Bd m y) : Bd (max n m + 1) (x + y) := by
  have h := h.mono (Nat.le_max_left n m)
  have k := k.mono (Nat.le_max_right n m)
  unfold Bd at *
  rw [Nat.pow_succ]
  omega
theorem Bd.sub {n m : Nat} {x y : Int} (h : Bd n x) (k : Bd m y) : Bd (max n m + 1) (x - y) := by
  have h := h.mono (Nat.le_max_left n m)
  have k := k.mono (Nat.le_max_right n m)
  unfold Bd at *
  rw [Nat.pow_succ]
  omega
theorem Bd.neg {n : Nat} {x : Int} (h : Bd n x) : Bd n (-x) := by
  unfold Bd at *
  omega
theorem Bd.of_le {n : Nat} {x b : Int} (h : -b ≤ x ∧ x ≤ b) (k : b < 2 ^ n) : Bd n x := by
  unfold Bd
  have : ((2 ^ n : Nat) : Int) = 2 ^ n := by simp
  omega
theorem mulOk_bd {n m : Nat} {x y : Int} (h : Bd n x) (k : Bd m y) (hn : n + m < 100000000) : mulOk x y := by
  apply mulOk_log
  have := h.log
  have := k.log
  omega
theorem divOk_bd {n : Nat} {x : Int} (h0 : x ≠ 0) (h : Bd n x) (k : n < 9000) : divOk x := ⟨h0, Nat.lt_of_le_of_lt h.log k⟩
theorem fdiv_pos {a b : Int} (h : 0 < b) : a.fdiv b = a / b := Int.fdiv_eq_ediv_of_nonneg a (by omega)
theorem fmod_pos {a b : Int} (h : 0 < b) : a.fmod b = a % b := Int.fmod_eq_emod_of_nonneg a (by omega)
end RR

/-! LayK: a tuple turned about, t[::-1]. -/
namespace RR
open PySem PySem.Spec L2 PyProof.Rows
section
variable {prog : Program} {w : World} {A : Around} {E : Value → Shared → Prop} {s : Shared}
theorem adjust_back (n : Nat) : Builtin.Slice.sliceAdjust none none (-1) (n : Int) = ((n : Int) - 1, -1) := by
  unfold Builtin.Slice.sliceAdjust
  simp
theorem places_back (n : Nat) : Builtin.Slice.slicePlaces ((n : Int) - 1) (-1) (-1) = n := by
  unfold Builtin.Slice.slicePlaces
  have h1 : ¬ ((-1 : Int) > 0) := by omega
  simp only [h1, if_false, Int.neg_neg, Int.ediv_one]
  split <;> omega
theorem pick_back (xs : List Value) : ((List.range xs.length).filterMap fun (m : Nat) => xs.toArray[((xs.length : Int) - 1 + (m : Int) * (-1)).toNat]?) = xs.reverse := by
  have e : ∀ m, m < xs.length → xs.toArray[((xs.length : Int) - 1 + (m : Int) * (-1)).toNat]? = some (xs.reverse[m]?.getD .none) := fun m hm => by
    have e1 : ((xs.length : Int) - 1 + (m : Int) * (-1)).toNat = xs.length - 1 - m := by omega
    rw [e1, List.getElem?_toArray, List.getElem?_reverse hm, List.getElem?_eq_getElem (by omega)]
    rfl
  have e2 : ∀ (l : List Nat), (∀ m ∈ l, m < xs.length) → (l.filterMap fun (m : Nat) => xs.toArray[((xs.length : Int) - 1 + (m : Int) * (-1)).toNat]?) = l.map fun m => xs.reverse[m]?.getD .none := by
    intro l hl
    induction l with
    | nil => rfl
    | cons m l ih => rw [List.filterMap_cons, e m (hl m (by simp)), List.map_cons, ih fun k hk => hl k (by simp [hk])]
  rw [e2 _ fun m hm => List.mem_range.mp hm]
  apply List.ext_getElem?
  intro i
  by_cases hi : i < xs.length
  · rw [List.getElem?_map, List.getElem?_range hi, List.getElem?_eq_getElem (by rw [List.length_reverse]; exact hi)]
    simp [hi]
  · rw [List.getElem?_eq_none (by simp; omega), List.getElem?_eq_none (by simp; omega)]
theorem getItem_tuple_back {t sl : Addr} {items : List Value} {vl vu vs : Value} {Q : Value → Shared → Prop} (ht : IsTup s.heap t items.toArray) (hs : s.heap.IsSliceOf sl vl vu vs) (pl : IsPart vl none) (pu : IsPart vu none) (ps : IsPart vs (some (-1)))
    (h : Q (.ref s.heap.objs.size) { s with heap := s.heap.push { cls := .type "tuple", data := .seq items.reverse.toArray } })
    (hsz : items.length ≤ sizeLine) : wpAny (model prog w) A (getItem (.ref t) (.ref sl)) Q E s := by
  have hok : sizeOk (.seq items.reverse.toArray) := by
    show items.reverse.toArray.size ≤ sizeLine
    rw [List.size_toArray, List.length_reverse]
    exact hsz
  obtain ⟨os, hos, hcs, hds⟩ := id hs
  have hTs : s.TypeIs (.ref sl) "slice" := ⟨os, hos, hcs⟩
  unfold getItem
  try with_reducible refine wpAny_holding ?_
  first | refine wpAny_bind (wpAny_pure ?_) | skip
  refine wpAny_bind (wpAny_sequenceKey ht.typeIs (by decide) ?_)
  refine wpAny_bind (wpAny_callSpecial?_slot (name := Str.ofString "__getitem__") ht.typeIs PyProof.Rows.slot_tuple_getitem
    (wpAny_call_entry PyProof.Rows.slot_tuple_getitem ht.typeIs entry_tuple_getitem ?_ (args_tuple_getitem _ _)))
  show wpAny _ _ (Builtin.Tuple.tupleItemsOf (.ref t) >>= _) _ _ s
  refine wpAny_bind (tupleItemsOf_ ht ?_)
  refine wpAny_bind (wpAny_typeOf hTs ?_)
  rw [if_pos (by decide)]
  have ap : ∀ {A : Around} {R : Int × Int × Nat → Shared → Prop}, R ((items.length : Int) - 1, -1, items.length) s → wpAny (model prog w) A (Builtin.Slice.sliceApplied (.ref sl) (pure ((items.toArray.size : Nat) : Int))) R E s := by
    intro A R hR
    unfold Builtin.Slice.sliceApplied Builtin.Slice.sliceFields
    refine wpAny_bind (wpAny_bind (wpAny_field hos hds (x := vl) rfl (wpAny_bind (wpAny_field hos hds (x := vu) rfl (wpAny_bind (wpAny_field hos hds (x := vs) rfl (wpAny_pure ?_)))))))
    refine wpAny_bind (HT.slicePart_ ps ?_)
    show wpAny _ _ (if ((-1 : Int) == 0) = true then _ else _) _ _ s
    rw [if_neg (by decide)]
    refine wpAny_bind (HT.slicePart_ pl (wpAny_bind (HT.slicePart_ pu (wpAny_bind (wpAny_pure ?_)))))
    show wpAny _ _ (match Builtin.Slice.sliceAdjust none none (-1) ((items.toArray.size : Nat) : Int) with | (lo, hi) => pure (lo, (-1 : Int), Builtin.Slice.slicePlaces lo hi (-1))) _ _ s
    rw [adjust_back]
    show wpAny _ _ (pure (((items.toArray.size : Nat) : Int) - 1, (-1 : Int), Builtin.Slice.slicePlaces (((items.toArray.size : Nat) : Int) - 1) (-1) (-1))) _ _ s
    rw [places_back, List.size_toArray]
    exact wpAny_pure hR
  refine wpAny_bind (ap ?_)
  have hno : ¬ ((((items.length : Int) - 1) == 0 && (-1 : Int) == 1 && items.length == items.toArray.size) = true) := by
    intro q
    rw [Bool.and_eq_true, Bool.and_eq_true] at q
    exact absurd q.1.2 (by decide)
  show wpAny _ _ (if (((items.length : Int) - 1) == 0 && (-1 : Int) == 1 && items.length == items.toArray.size) = true then _ else _) _ _ s
  rw [if_neg hno, pick_back]
  first
    | exact wpAny_bind (m := Builtin.Tuple.tupleExact _) (wpAny_newObj_type (wpAny_pure ⟨_, rfl, wpAny_pure h⟩) hok)
    | exact wpAny_bind (m := Builtin.Tuple.tupleExact _) (wpAny_newObj_type (wpAny_bind (wpAny_pure (wpAny_pure ⟨_, rfl, wpAny_pure h⟩))) hok)
    | exact wpAny_bind (wpAny_bind (m := Builtin.Tuple.tupleExact _) (wpAny_newObj_type (wpAny_pure (wpAny_pure ⟨_, rfl, wpAny_pure h⟩)) hok))
    | exact wpAny_bind (wpAny_bind (m := Builtin.Tuple.tupleExact _) (wpAny_newObj_type (wpAny_pure ⟨_, rfl, wpAny_pure h⟩) hok))
end
section
variable {X : Cx} {fx : List Nat} {Wx : WX} {e : Expr} {pos : Pos}
def tRevT (K : PySem.W.Frag) (te : TE) : TE := fun σ H Q => te σ H fun x H1 => ∃ a xs, x = .ref a ∧ SqT K H1 a xs ∧ ∀ p, H1 p = none → Q (.ref p) (upd H1 p (.tup xs.reverse))
theorem pe_revT {te : TE} {k : Nat} {p1 p2 p3 : Pos} (he : PE X e te) : PE X (.Subscript e (.Slice none none (some (.UnaryOp .USub (.Constant (.int 1) k p1) p2)) p3) pos) (tRevT X.K te) := by
  refine ⟨fun pins s σ H Q I h => ?_⟩
  refine Subscript_ (thn (he.run pins s σ H _ I h) fun v s1 ⟨x, H1, I1, r1, q1⟩ => ?_)
  obtain ⟨a, xs, ex, hx, q⟩ := q1
  subst ex
  cases r1
  have hst : PO X (some (.UnaryOp .USub (.Constant (.int 1) k p1) p2)) (tPart (tUn (rU fun i => .int (-i)) (tC (.int 1)))) := po_some (pe_un un_neg pe_int)
  refine wpAny_Slice (thn (po_none.run pins s1 σ H1 (fun o H2 => o = none ∧ H2 = H1) I1 ⟨rfl, rfl⟩) fun vl s2 ⟨l, H2, I2, pl, el, e2⟩ => ?_)
  subst el e2
  refine thn (po_none.run pins s2 σ H2 (fun o H3 => o = none ∧ H3 = H2) I2 ⟨rfl, rfl⟩) fun vu s3 ⟨u, H3, I3, pu, eu, e3⟩ => ?_
  subst eu e3
  refine thn (hst.run pins s3 σ H3 (fun o H4 => o = some (-1) ∧ H4 = H3) I3 ⟨1, rfl, -1, rfl, rfl, rfl⟩) fun vs s4 ⟨o, H4, I4, ps, eo, e4⟩ => ?_
  subst eo e4
  have I5 : Inv X pins σ H4 { s4 with heap := s4.heap.push { cls := .type "slice", data := .fields #[vl, vu, vs] } } := I4.kept (t' := s4.toks) fun b ob q => Heap.get?_push_of_some _ q
  obtain ⟨its, r, ht, hz⟩ := I5.tuple hx
  show wpAny (model X.prog X.w) X.A (subscriptTail e (.Slice none none (some (.UnaryOp .USub (.Constant (.int 1) k p1) p2)) p3) (.ref a) (.ref s4.heap.objs.size)) (EP X pins σ Q) X.xe { s4 with heap := s4.heap.push { cls := .type "slice", data := .fields #[vl, vu, vs] } }
  refine tail_any (ops := [.ref a, .ref s4.heap.objs.size]) ht.typeIs PyProof.Rows.slot_tuple_getitem.lookup ?_ (by with_unfolding_all rfl)
  refine getItem_tuple_back ht (Heap.IsSliceOf.new _ vl vu vs) pl pu ps ?_ (by have := r.length; omega)
  refine ⟨.ref _, _, I5.laid (t' := s4.toks) (o := .tup xs.reverse) (fun b ob q => Heap.get?_push_of_some _ q) (Nat.le_refl _) ?_, rfl, q _ (I5.hok.fresh (Nat.le_refl _))⟩
  exact ⟨by rw [List.length_reverse]; exact hz, _, r.reverse, IsTup.new _ _⟩
def gRevT : G1 := fun x P => match x with
  | .tuple ds => P (.val (.tuple ds.reverse))
  | _ => False
theorem res_tup2 {K : PySem.W.Frag} {Hs H : Hp} {p : Addr} {vs : List V} {ds : List D} (s : Same Hs H) (np : H p = none) (dp : DpAll K Hs vs ds) : Res K Hs H (.ref p) (upd H p (.tup vs)) (.val (.tuple ds)) := by
  have n2 : Hs p = none := by
    cases q : Hs p with
    | none => rfl
    | some o =>
      rw [s p o q] at np
      cases np
  have sm : Same Hs (upd Hs p (.tup vs)) := same_upd n2
  exact ⟨upd Hs p (.tup vs), sm, (fun a o x n => by
      by_cases ha : a = p
      · rw [ha] at x ⊢; rw [upd_same] at x; exact ⟨np, by rw [← Option.some.inj x]; first | exact Nfz.tup | exact Nfz.lst⟩
      · rw [upd_ne ha, n] at x; cases x), (fun a o x => by
      by_cases ha : a = p
      · subst ha; rw [upd_same] at x ⊢; exact x
      · rw [upd_ne ha] at x ⊢; exact s a o x), same_upd np, .tup (.inl (.inl upd_same)) (dpa_mono sm _ _ dp)⟩
theorem pv_revT {te : TeD} {k : Nat} {p1 p2 p3 : Pos} (he : Pv X fx Wx e te) : Pv X fx Wx (.Subscript e (.Slice none none (some (.UnaryOp .USub (.Constant (.int 1) k p1) p2)) p3) pos) (tOp1 gRevT te) := by
  refine PE.imp (pe_revT he) fun σ H Q h => ?_
  refine op1_imp (r := fun x H1 Q => ∃ a xs, x = .ref a ∧ SqT X.K H1 a xs ∧ ∀ p, H1 p = none → Q (.ref p) (upd H1 p (.tup xs.reverse))) (op := gRevT) (fun Hs H x dx P Q sm lx h k => ?_) σ H Q h
  unfold gRevT at h
  split at h
  · obtain ⟨p, vs, rfl, s1, d1⟩ := lx.tup sm
    exact ⟨p, vs, rfl, s1, fun z nz => k _ _ _ h (res_tup2 sm nz (dpa_reverse d1))⟩
  · exact h.elim
end
theorem nO1 {ρ : Rho} {i : Nat} (h : ρ[i]? = some none) : noOwn ρ [i] := by
  intro v hv xs e
  obtain rfl : v = i := by simpa using hv
  rw [h] at e
  cases e
theorem nO2 {ρ : Rho} {i j : Nat} (h : ρ[i]? = some none) (k : ρ[j]? = some none) : noOwn ρ [i, j] := by
  intro v hv xs e
  rcases List.mem_cons.mp hv with rfl | hv
  · rw [h] at e
    cases e
  · exact nO1 k v hv xs e
end RR

/-! LayL: list(zip(xs, ys)), a new list of new pairs. -/
namespace RR
open PySem PySem.Spec L2 PyProof.Rows
theorem zip_no_len : typeLookup (.type "zip") "__len__" = pure none := by rw [typeLookup_type, builtinLookup_eq_fast]; kernel_rfl
theorem zip_no_hint : typeLookup (.type "zip") "__length_hint__" = pure none := by rw [typeLookup_type, builtinLookup_eq_fast]; kernel_rfl
/-- where the zip stands -/
def ZSt (h : Heap) (z TI TO i1 i2 l1 l2 S : Addr) (i : Nat) : Prop :=
  (∃ oO, h.get? TO = some oO) ∧ IsPair h TI (.ref i1) (.ref i2) ∧ h.IsListIter i1 l1 i ∧ h.IsListIter i2 l2 i ∧ ((IsZip h z TI TO .none ∧ ∃ a b, IsPair h TO a b) ∨ ∃ T f oT, IsZipHeld h z TI TO T f ∧ h.get? T = some oT ∧ T ≠ z ∧ T ≠ i1 ∧ T ≠ i2 ∧ T ≠ S)
def PairsAt (H H' : Hp) (S : Addr) (xs ys ws : List V) (i : Nat) : Prop := ∀ (j : Nat) (w : V), ws[j]? = some w → ∃ T x y, w = .ref T ∧ T ≠ S ∧ H T = none ∧ H' T = some (.tup [x, y]) ∧ xs[i + j]? = some x ∧ ys[i + j]? = some y
section
variable {X : Cx} {pins : List (Addr × Obj)} {σ : L2.St} {A : Around} {R : Result → Shared → Prop} {z TI TO i1 i2 a b S : Addr} {xs ys : List V} {its its2 : List Value} {res : Value}
theorem zip_loop (hh : A.handled = none) (D : ZipApart z TI TO i1 i2 a b) (rv : Vals xs its) (rv2 : Vals ys its2) (hS : ∀ c ∈ [z, TI, TO, i1, i2, a, b], c ≠ S) (hm : min xs.length ys.length ≤ sizeLine) :
    ∀ (k i : Nat) (s : Shared) (H : Hp) (ws : List V), min xs.length ys.length - i = k → i ≤ min xs.length ys.length → Inv X pins σ H s → s.heap.IsList a its.toArray → s.heap.IsList b its2.toArray → H S = some (.lst ws) → ws.length = i →
      ZSt s.heap z TI TO i1 i2 a b S i → (∀ c ∈ [z, TI, TO, i1, i2], FpOk X pins H c) →
      (∀ s' H' more, Inv X pins σ H' s' → H' S = some (.lst (ws ++ more)) → (∀ c o, c ≠ S → H c = some o → H' c = some o) → more.length = min xs.length ys.length - i → PairsAt H H' S xs ys more i → R (.ok (.ret res)) s') →
      codeAny (model X.prog X.w) A (.builtin "list.extend.loop" ⟨[.ref S, .ref z, res], []⟩) R s := by
  have l1 := rv.length
  have l2 := rv2.length
  have nS : ∀ c, c ∈ [z, TI, TO, i1, i2, a, b] → S ≠ c := fun c hc e => hS c hc e.symm
  intro k
  induction k with
  | zero =>
    intro i s H ws hk hi I hl1 hl2 hH hw ⟨⟨oO, hO⟩, hTI, h1, h2, hz⟩ hf hR
    have hin : i = min xs.length ys.length := by omega
    have hend : its.toArray[i]? = none ∨ its2.toArray[i]? = none := by
      rcases Nat.le_total xs.length ys.length with q | q
      · exact .inl (by simp; omega)
      · exact .inr (by simp; omega)
    have out : ∀ h', (∀ c o, c ≠ z → c ≠ TO → c ≠ i1 → c ≠ i2 → s.heap.get? c = some o → h'.get? c = some o) → R (.ok (.ret res)) { s with heap := h' } := fun h' hk' => by
      have I1 : Inv X pins σ H { s with heap := h' } := I.turnedL (t' := s.toks) (ch := [z, TI, TO, i1, i2]) (fun c o hb q => hk' c o (fun q' => hb (by simp [q'])) (fun q' => hb (by simp [q'])) (fun q' => hb (by simp [q'])) (fun q' => hb (by simp [q'])) q) hf
      exact hR _ H [] I1 (by rw [List.append_nil]; exact hH) (fun _ _ _ e => e) (by simp; omega) fun j w e => by simp at e
    refine codeAny_builtin F.entry_extend_loop ?_
    rw [Around.under_plainId F.plain_extend_loop _]
    show wpAny _ A.in1 (pyNext (.ref z) >>= _) _ _ s
    rcases hz with ⟨hz, x0, y0, hTO⟩ | ⟨T, f, oT, hz, hT, r1, r2, r3, r4⟩
    · exact wpAny_bind (wpAny_pyNext_zip_end hh D hz hTI hTO h1 h2 hl1 hl2 hend fun h' hk' => wpAny_pure (out h' hk'))
    · exact wpAny_bind (wpAny_pyNext_zip_end_held hh D hz hT hTI h1 h2 hl1 hl2 hend fun h' hk' => wpAny_pure (out h' fun c o c1 c2 c3 c4 q => hk' c o c1 c3 c4 q))
  | succ k ih =>
    intro i s H ws hk hi I hl1 hl2 hH hw ⟨⟨oO, hO⟩, hTI, h1, h2, hz⟩ hf hR
    have hix : i < xs.length := by omega
    have hiy : i < ys.length := by omega
    obtain ⟨u, hu, ru⟩ := rv.get (List.getElem?_eq_getElem hix)
    obtain ⟨u2, hu2, ru2⟩ := rv2.get (List.getElem?_eq_getElem hiy)
    have hx : its.toArray[i]? = some u := by simpa using hu
    have hy : its2.toArray[i]? = some u2 := by simpa using hu2
    have lt : ∀ {c o}, s.heap.get? c = some o → c < s.heap.objs.size := fun e => Heap.lt_size e
    have zl : z < s.heap.objs.size := by rcases hz with ⟨hz, _⟩ | ⟨T, f, oT, hz, _⟩ <;> exact lt hz
    have i1l : i1 < s.heap.objs.size := by obtain ⟨_, e, _⟩ := h1; exact lt e
    have i2l : i2 < s.heap.objs.size := by obtain ⟨_, e, _⟩ := h2; exact lt e
    obtain ⟨_, its0, n0, rw0, e0⟩ := I.lstM hH
    have Sl : S < s.heap.objs.size := lt e0.2
    have step : ∀ h', (∀ c o, c ≠ z → c ≠ TO → c ≠ i1 → c ≠ i2 → s.heap.get? c = some o → h'.get? c = some o) → IsPair h' s.heap.objs.size u u2 → h'.IsListIter i1 a (i + 1) → h'.IsListIter i2 b (i + 1) →
        (∃ T f oT, IsZipHeld h' z TI TO T f ∧ h'.get? T = some oT ∧ T ≠ z ∧ T ≠ i1 ∧ T ≠ i2 ∧ T ≠ S) → (∃ oO, h'.get? TO = some oO) →
        wpAny (model X.prog X.w) A.in1 (updateSeq S (·.push (.ref s.heap.objs.size)) >>= fun _ => again (.builtin "list.extend.loop" ⟨[.ref S, .ref z, res], []⟩))
          (fun fin s' => match fin with | .done f => R (.ok f) s' | .again c' => c'.quiet = true ∧ codeAny (model X.prog X.w) A c' R s') (fun e s' => R (.error e) s') { s with heap := h' } := by
      intro h' hk' hT' g1 g2 gz ⟨oO', hO'⟩
      have new : ObjOk X.prog X.w (upd H s.heap.objs.size (.tup [xs[i], ys[i]])) h' s.heap.objs.size (.tup [xs[i], ys[i]]) :=
        ⟨by show 2 ≤ sizeLine; decide, [u, u2], .cons ru (.cons ru2 .nil), ⟨_, hT', rfl, _, rfl⟩⟩
      have I1 : Inv X pins σ (upd H s.heap.objs.size (.tup [xs[i], ys[i]])) { s with heap := h' } :=
        I.turnedNew (t' := s.toks) (ch := [z, TI, TO, i1, i2]) (fun c o hb q => hk' c o (fun q' => hb (by simp [q'])) (fun q' => hb (by simp [q'])) (fun q' => hb (by simp [q'])) (fun q' => hb (by simp [q'])) q) hf (Nat.le_refl _) new
      have hH1 : (upd H s.heap.objs.size (.tup [xs[i], ys[i]])) S = some (.lst ws) := by rw [upd_ne (Nat.ne_of_lt Sl)]; exact hH
      obtain ⟨_, its', n', r', hl', e'⟩ := I1.lstM hH1
      have hlen : its'.length = i := by rw [← hl', hw]
      have I2 : Inv X pins σ (upd (upd H s.heap.objs.size (.tup [xs[i], ys[i]])) S (.lst (ws ++ [V.ref s.heap.objs.size]))) { s with heap := h'.update S (Obj.mapSeq (·.push (.ref s.heap.objs.size))) } :=
        I1.lset (its' := its' ++ [.ref s.heap.objs.size]) (t' := s.toks) hH1 e' (by simp) (r'.append (.cons (show L2.RelV (V.ref s.heap.objs.size) (Value.ref s.heap.objs.size) from rfl) .nil)) (by rw [List.length_append]; simp; omega)
      have k2 : ∀ c o, c ≠ S → h'.get? c = some o → (h'.update S (Obj.mapSeq (·.push (Value.ref s.heap.objs.size)))).get? c = some o := fun c o hc q => (Heap.get?_update_other _ _ (Ne.symm hc)).trans q
      refine wpAny_bind (wpAny_updateSeq e' rfl (wpAny_pure ⟨plainId_quiet F.plain_extend_loop _, ih (i + 1) _ _ (ws ++ [V.ref s.heap.objs.size]) (by omega) (by omega) I2 ?_ ?_ upd_same (by simp [hw]) ⟨⟨oO', k2 _ _ (hS TO (by simp)) hO'⟩, ?_, ?_, ?_, .inr ?_⟩ ?_ ?_⟩) (by rw [List.size_toArray]; omega) (by show (its'.toArray.push _).size ≤ sizeLine + 1; rw [Array.size_push, List.size_toArray]; omega))
      · exact hl1.at fun o q => k2 _ o (hS a (by simp)) (hk' _ o D.l1z D.l1TO D.l1i1 D.l1i2 q)
      · exact hl2.at fun o q => k2 _ o (hS b (by simp)) (hk' _ o D.l2z D.l2TO D.l2i1 D.l2i2 q)
      · exact k2 _ _ (hS TI (by simp)) (hk' _ _ D.TIz D.TITO D.TIi1 D.TIi2 hTI)
      · exact g1.at fun o q => k2 _ o (hS i1 (by simp)) q
      · exact g2.at fun o q => k2 _ o (hS i2 (by simp)) q
      · obtain ⟨T, f, oT, hz', hT2, r1, r2, r3, r4⟩ := gz
        exact ⟨T, f, oT, k2 _ _ (hS z (by simp)) hz', k2 _ _ r4 hT2, r1, r2, r3, r4⟩
      · intro c hc
        have q := hf c hc
        have cl : c < s.heap.objs.size := by
          have e' : c = z ∨ c = TI ∨ c = TO ∨ c = i1 ∨ c = i2 := by simpa using hc
          have TOl : TO < s.heap.objs.size := lt hO
          rcases e' with q | q | q | q | q
          · rw [q]; exact zl
          · rw [q]; exact lt hTI
          · rw [q]; exact TOl
          · rw [q]; exact i1l
          · rw [q]; exact i2l
        refine ⟨?_, q.2⟩
        rw [upd_ne (hS c (by simp at hc ⊢; rcases hc with h | h | h | h | h <;> simp [h])), upd_ne (Nat.ne_of_lt cl)]
        exact q.1
      · intro s' H' more I' hS' hk3 hmore hp
        refine hR s' H' (V.ref s.heap.objs.size :: more) I' (by rw [hS', List.append_assoc]; rfl) (fun c o hc q => hk3 c o hc ?_) (by simp; omega) fun j w e => ?_
        · rw [upd_ne hc, upd_ne (ne_of_none q I.fresh)]
          exact q
        · cases j with
          | zero =>
            simp only [List.getElem?_cons_zero, Option.some.injEq] at e
            subst e
            refine ⟨s.heap.objs.size, xs[i], ys[i], rfl, Nat.ne_of_gt Sl, I.fresh, hk3 _ _ (Nat.ne_of_gt Sl) ?_, List.getElem?_eq_getElem hix, List.getElem?_eq_getElem hiy⟩
            rw [upd_ne (Nat.ne_of_gt Sl)]
            exact upd_same
          | succ j =>
            obtain ⟨T, x, y, e1, e2, e3, e4, e5, e6⟩ := hp j w (by simpa using e)
            refine ⟨T, x, y, e1, e2, ?_, e4, ?_, ?_⟩
            · rw [upd_ne e2] at e3
              by_cases hT : T = s.heap.objs.size
              · rw [hT]; exact I.fresh
              · rw [upd_ne hT] at e3; exact e3
            · rw [show i + (j + 1) = i + 1 + j by omega]; exact e5
            · rw [show i + (j + 1) = i + 1 + j by omega]; exact e6
    refine codeAny_builtin F.entry_extend_loop ?_
    rw [Around.under_plainId F.plain_extend_loop _]
    show wpAny _ A.in1 (pyNext (.ref z) >>= _) _ _ s
    rcases hz with ⟨hz, x0, y0, hTO⟩ | ⟨T, f, oT, hz, hT, r1, r2, r3, r4⟩
    · refine wpAny_bind (wpAny_pyNext_zip_item D hz hTI hTO h1 h2 hl1 hl2 hx hy fun h' a1 a2 a3 a4 a5 a6 hk' => ?_)
      exact step h' hk' a5 a3 a4 ⟨s.heap.objs.size, false, _, a1, a5, Nat.ne_of_gt zl, Nat.ne_of_gt i1l, Nat.ne_of_gt i2l, Nat.ne_of_gt Sl⟩ ⟨_, a2⟩
    · refine wpAny_bind (wpAny_pyNext_zip_item_held D hz hT hTI h1 h2 hl1 hl2 hx hy fun h' a1 a3 a4 a5 a6 hk' => ?_)
      exact step h' (fun c o c1 c2 c3 c4 q => hk' c o c1 c3 c4 q) a5 a3 a4 ⟨T, true, oT, a1, hk' _ _ r1 r2 r3 hT, r1, r2, r3, r4⟩ ⟨oO, hk' _ _ D.TOz D.TOi1 D.TOi2 hO⟩

/-- what list(zip(..)) leaves -/
def ZRes (H H' : Hp) (S : Addr) (xs ys ws : List V) : Prop := H S = none ∧ H' S = some (.lst ws) ∧ (∀ c o, H c = some o → H' c = some o) ∧ ws.length = min xs.length ys.length ∧ PairsAt H H' S xs ys ws 0
theorem extend_zip {s s0 : Shared} {H : Hp} (hh : A.handled = none) (D : ZipApart z TI TO i1 i2 a b) (rv : Vals xs its) (rv2 : Vals ys its2) (hS : ∀ c ∈ [z, TI, TO, i1, i2, a, b], c ≠ S) (hm : min xs.length ys.length ≤ sizeLine)
    (I0 : Inv X pins σ H s0) (hx0 : s0.heap.objs.size ≤ S) (hk0 : ∀ c o, s0.heap.get? c = some o → s.heap.get? c = some o) (he : ∃ h t, s = { s0 with heap := h, toks := t })
    (hz : IsZip s0.heap z TI TO .none) (hTI : IsPair s0.heap TI (.ref i1) (.ref i2)) {u0 u1 : Value} (hTO : IsPair s0.heap TO u0 u1) (h1 : s0.heap.IsListIter i1 a 0) (h2 : s0.heap.IsListIter i2 b 0) (hl1 : s0.heap.IsList a its.toArray) (hl2 : s0.heap.IsList b its2.toArray)
    (hf : ∀ c ∈ [z, TI, TO, i1, i2], FpOk X pins H c) (c₀ : Nat) (hSS : s.heap.get? S = some { cls := .type "list", data := .seq #[] c₀ })
    (hR : ∀ s' H' ws, Inv X pins σ H' s' → ZRes H H' S xs ys ws → R (.ok (.ret res)) s') :
    wpAny (model X.prog X.w) A.in1 (Builtin.List.listExtendWith (.ref S) (.ref z) res)
      (fun fin s' => match fin with | .done f => R (.ok f) s' | .again c' => c'.quiet = true ∧ codeAny (model X.prog X.w) A c' R s') (fun e s' => R (.error e) s') s := by
  have hSz : S ≠ z := fun e => hS z (by simp) e.symm
  have hT : s.TypeIs (.ref z) "zip" := ⟨_, hk0 _ _ hz, rfl⟩
  have hHS : H S = none := I0.hok.fresh hx0
  unfold Builtin.List.listExtendWith
  refine wpAny_bind (wpAny_typeOf hT ?_)
  have e1 : Builtin.List.listSameRef (.ref S) (.ref z) = false := by simp [Builtin.List.listSameRef, hSz]
  have e2 : (Value.type "zip" == Value.type "list") = false := by decide
  have e3 : (Value.type "zip" == Value.type "tuple") = false := by decide
  simp only [e1, e2, e3, Bool.or_false, Bool.false_eq_true, if_false]
  refine wpAny_bind (wpAny_pyIter_zip (hk0 _ _ hz) ?_)
  refine wpAny_bind (wpAny_holding ?_)
  unfold Builtin.List.listLengthHint
  refine wpAny_bind (wpAny_specialOf hT zip_no_len ?_)
  show wpAny _ A.in1 (specialOf (Value.ref z) (Str.ofString "__length_hint__") >>= _) _ _ _
  refine wpAny_bind (wpAny_specialOf hT zip_no_hint ?_)
  refine wpAny_pure ?_
  show wpAny _ A.in1 (rule "list.extend.makes-room" >>= fun _ => Builtin.List.listTouch (.ref S) >>= fun _ =>
    again (.builtin "list.extend.loop" ⟨[.ref S, .ref z, res], []⟩)) _ _ _
  refine wpAny_bind (wpAny_rule ?_)
  refine wpAny_bind ?_
  show wpAny _ A.in1 (updateSeq S (·.push .none) >>= fun _ => updateSeq S (·.pop)) _ _ _
  refine wpAny_bind (wpAny_updateSeq hSS rfl ?_)
  have hS₂ := Heap.get?_update_self (Obj.mapSeq (·.push Value.none)) hSS rfl
  refine wpAny_updateSeq (hz := by seq_fits) hS₂ rfl ?_
  have hS₃ := Heap.get?_update_self (Obj.mapSeq (·.pop)) hS₂ rfl
  have oth : ∀ c o, s0.heap.get? c = some o → ((s.heap.update S (Obj.mapSeq (·.push Value.none))).update S (Obj.mapSeq (·.pop))).get? c = some o :=
    fun c o e => by
      have hc : c ≠ S := Nat.ne_of_lt (Nat.lt_of_lt_of_le (Heap.lt_size e) hx0)
      exact (Heap.get?_update_other _ _ (Ne.symm hc)).trans ((Heap.get?_update_other _ _ (Ne.symm hc)).trans (hk0 c o e))
  obtain ⟨h0, t0, rfl⟩ := he
  have I1 : Inv X pins σ (upd H S (.lst [])) { s0 with heap := (h0.update S (Obj.mapSeq (·.push Value.none))).update S (Obj.mapSeq (·.pop)), toks := t0 } :=
    I0.laid (t' := t0) oth hx0 ⟨Nat.zero_le _, [], _, .nil, hS₃⟩
  refine wpAny_pure ⟨plainId_quiet F.plain_extend_loop _, zip_loop hh D rv rv2 hS hm _ 0 _ _ [] rfl (Nat.zero_le _) I1 (hl1.at fun o q => oth _ o q) (hl2.at fun o q => oth _ o q) upd_same rfl
    ⟨⟨_, oth _ _ hTO⟩, oth _ _ hTI, h1.at fun o q => oth _ o q, h2.at fun o q => oth _ o q, .inl ⟨oth _ _ hz, _, _, oth _ _ hTO⟩⟩ (fun c hc => ⟨by rw [upd_ne (hS c (by simp at hc ⊢; rcases hc with h | h | h | h | h <;> simp [h]))]; exact (hf c hc).1, (hf c hc).2⟩) fun s' H' more I' hS' hk3 hmore hp => ?_⟩
  refine hR s' H' more I' ⟨hHS, hS', fun c o e => hk3 c o (ne_of_none e hHS) (by rw [upd_ne (ne_of_none e hHS)]; exact e), by omega, fun j w e => ?_⟩
  obtain ⟨T, x, y, q1, q2, q3, q4, q5, q6⟩ := hp j w e
  exact ⟨T, x, y, q1, q2, by rw [upd_ne q2] at q3; exact q3, q4, q5, q6⟩
end
section
variable {X : Cx} {pins : List (Addr × Obj)} {σ : L2.St} {z TI TO i1 i2 a b : Addr} {xs ys : List V} {its its2 : List Value}
theorem call_list_zip {s : Shared} {H : Hp} {Q : Value → Shared → Prop} {E : Value → Shared → Prop} (hh : X.A.handled = none) (D : ZipApart z TI TO i1 i2 a b) (rv : Vals xs its) (rv2 : Vals ys its2) (hm : min xs.length ys.length ≤ sizeLine)
    (I : Inv X pins σ H s) (hz : IsZip s.heap z TI TO .none) (hTI : IsPair s.heap TI (.ref i1) (.ref i2)) {u0 u1 : Value} (hTO : IsPair s.heap TO u0 u1) (h1 : s.heap.IsListIter i1 a 0) (h2 : s.heap.IsListIter i2 b 0) (hl1 : s.heap.IsList a its.toArray) (hl2 : s.heap.IsList b its2.toArray)
    (hf : ∀ c ∈ [z, TI, TO, i1, i2], FpOk X pins H c) (hQ : ∀ S s' H' ws, Inv X pins σ H' s' → ZRes H H' S xs ys ws → Q (.ref S) s') :
    wpAny (model X.prog X.w) X.A (call (.type "list") [.ref z]) Q E s := by
  refine callType_codes (Q₁ := fun obj s₁ => obj = .ref s.heap.objs.size ∧ s₁ = { s with heap := s.heap.push { cls := .type "list", data := .seq #[] } }) F.called_list (F.typeCall_list_1 _) F.entry_list_init
    (code_list_new _ ⟨rfl, rfl⟩) fun obj s₁ h₁ => ?_
  obtain ⟨rfl, rfl⟩ := h₁
  have hS : (s.heap.push { cls := .type "list", data := .seq #[] }).get? s.heap.objs.size = some { cls := .type "list", data := .seq #[] } := Heap.get?_push_size _ rfl
  have hne : ∀ c ∈ [z, TI, TO, i1, i2, a, b], c ≠ s.heap.objs.size := by
    intro c hc e
    have hlt : c < s.heap.objs.size := by
      have e' : c = z ∨ c = TI ∨ c = TO ∨ c = i1 ∨ c = i2 ∨ c = a ∨ c = b := by simpa using hc
      rcases e' with q | q | q | q | q | q | q
      · rw [q]; exact Heap.lt_size hz
      · rw [q]; exact Heap.lt_size hTI
      · rw [q]; exact Heap.lt_size hTO
      · rw [q]; obtain ⟨_, e1, _⟩ := h1; exact Heap.lt_size e1
      · rw [q]; obtain ⟨_, e1, _⟩ := h2; exact Heap.lt_size e1
      · rw [q]; obtain ⟨_, e1, _⟩ := hl1; exact Heap.lt_size e1
      · rw [q]; obtain ⟨_, e1, _⟩ := hl2; exact Heap.lt_size e1
    exact absurd hlt (by rw [e]; exact Nat.lt_irrefl _)
  refine ⟨⟨_, hS, rfl⟩, F.args_list_init_2 _ _, ?_⟩
  show wpAny _ X.A.in1.in1 (do let old ← Builtin.List.listItems (.ref s.heap.objs.size); Builtin.List.listUpdate (.ref s.heap.objs.size) (fun _ => #[]); letGo old.toList.reverse; Builtin.List.listExtendWith (.ref s.heap.objs.size) (.ref z) .none) _ _ _
  refine wpAny_bind ?_
  unfold Builtin.List.listItems
  refine wpAny_bind (wpAny_seqItems hS rfl (wpAny_pure ?_))
  show wpAny _ X.A.in1.in1 (updateSeq s.heap.objs.size (fun _ => #[]) >>= fun _ => letGo (#[] : Array Value).toList.reverse >>= fun _ => Builtin.List.listExtendWith (.ref s.heap.objs.size) (.ref z) .none) _ _ _
  refine wpAny_bind (wpAny_updateSeq hS rfl ?_)
  have hS₂ := Heap.get?_update_self (Obj.mapSeq (fun _ => (#[] : Array Value))) hS rfl
  refine wpAny_bind (wpAny_letGo ?_)
  refine extend_zip (A := X.A.in1) (s0 := s) hh D rv rv2 hne hm I (Nat.le_refl _) (fun c o e => ?_) ⟨_, _, rfl⟩ hz hTI hTO h1 h2 hl1 hl2 hf _ hS₂ fun s' H' ws I' hr => ⟨rfl, hQ _ _ _ _ I' hr⟩
  have hc : c ≠ s.heap.objs.size := Nat.ne_of_lt (Heap.lt_size e)
  exact (Heap.get?_update_other _ _ (Ne.symm hc)).trans (Heap.get?_push_of_some _ e)
end
/-! ### list(zip(..)) as an expression -/
section
variable {X : Cx}
def tLZ (K : PySem.W.Frag) (ta : TA) : TE := fun σ H Q => ta σ H fun vs H1 => ∃ a b xs ys, vs = [.ref a, .ref b] ∧ SqL K H1 a xs ∧ SqL K H1 b ys ∧ ∀ S H' ws, ZRes H1 H' S xs ys ws → Q (.ref S) H'
theorem pe_lzip {e e2 : Expr} {ta : TA} {p pos p2 pos2 : Pos} (hc : X.calm = true) (hg : Gl X "zip") (hm : X.mg "zip" = none) (hg2 : Gl X "list") (hm2 : X.mg "list" = none) (ha : PA X [e, e2] ta)
    (hs : starEach [e, e2] X.env = (false, eval e X.env) :: starEach [e2] X.env := by rfl) (hpl : (backTo pos (starEach [e2] X.env)).any (·.1) = false := by rfl)
    (hs2 : starEach [.Call (.Name "zip" p) [e, e2] [] pos] X.env = (false, eval (.Call (.Name "zip" p) [e, e2] [] pos) X.env) :: starEach [] X.env := by rfl) :
    PE X (.Call (.Name "list" p2) [.Call (.Name "zip" p) [e, e2] [] pos] [] pos2) (tLZ X.K ta) := by
  refine ⟨fun pins s σ H Q I h => ?_⟩
  refine Call_ (ld_blt I hg2 hm2 boot_list (PyProof.Rows.callWith_type1 (args_cons (Call_ (ld_blt I hg hm PyProof.Rows.boot_zip (PyProof.Rows.callWith_type1 (thn (ha.run pos pins s σ H _ I h) fun us s1 ⟨vs, H1, I1, r1, q1⟩ => ?_) hs hpl))) hs2) hs2))
  obtain ⟨a, b, xs, ys, ex, hqx, hqy, q⟩ := q1
  subst ex
  cases r1 with
  | cons r rr =>
    cases rr with
    | cons r' rr =>
      cases rr
      cases r
      cases r'
      obtain ⟨its, rv, p1, n1⟩ := I1.list hqx
      obtain ⟨its2, rv2, p2, n2⟩ := I1.list hqy
      refine call_zip_2 p1.isList p2.isList fun h' hz hTI hTO h1 h2 hsz hk => args_nil ?_
      have I2 : Inv X pins σ H1 { s1 with heap := h' } := I1.kept (t' := s1.toks) hk
      refine call_list_zip (I1.ok.hd hc) (PySem.W.ktu_apart s1.heap.objs.size a b p1.lt p2.lt) rv rv2 (by omega) I2 hz hTI hTO h1 h2 (p1.isList.at fun o q => hk _ o q) (p2.isList.at fun o q => hk _ o q) (fun c hcm => ?_) fun S s' H' ws I' hr => ⟨.ref S, H', I', rfl, q S H' ws hr⟩
      have e' : c = s1.heap.objs.size + 4 ∨ c = s1.heap.objs.size + 2 ∨ c = s1.heap.objs.size + 3 ∨ c = s1.heap.objs.size ∨ c = s1.heap.objs.size + 1 := by simpa using hcm
      have hle : s1.heap.objs.size ≤ c := by
        rcases e' with z | z | z | z | z
        · rw [z]; exact Nat.le_add_right _ _
        · rw [z]; exact Nat.le_add_right _ _
        · rw [z]; exact Nat.le_add_right _ _
        · rw [z]; exact Nat.le_refl _
        · rw [z]; exact Nat.le_add_right _ _
      exact I1.fpOk hle (I1.hok.fresh hle)
end
/-! ### .. over data -/
theorem dpa_of_get {K : PySem.W.Frag} {H : Hp} : ∀ {vs : List V} {ds : List D}, vs.length = ds.length → (∀ (j : Nat) (v : V) (d : D), vs[j]? = some v → ds[j]? = some d → Dp K H v d) → DpAll K H vs ds
  | [], [], _, _ => .nil
  | [], _ :: _, h, _ => by simp at h
  | _ :: _, [], h, _ => by simp at h
  | v :: vs, d :: ds, h, f => .cons (f 0 v d rfl rfl) (dpa_of_get (by simpa using h) fun j v d e1 e2 => f (j + 1) v d (by simpa using e1) (by simpa using e2))
open Classical in
theorem lz_res {K : PySem.W.Frag} {Hs H H' : Hp} {S : Addr} {xs ys ws : List V} {ds es : List D} (sm : Same Hs H) (dx : DpAll K Hs xs ds) (dy : DpAll K Hs ys es) (z : ZRes H H' S xs ys ws) : Res K Hs H (.ref S) H' (.val (.list (zipD ds es))) := by
  obtain ⟨z1, z2, z3, z4, z5⟩ := z
  have s1 : Same Hs (fun c => match Hs c with | some o => some o | none => if c = S ∨ V.ref c ∈ ws then H' c else none) := fun c o e => by
    show (match Hs c with | some o => some o | none => _) = some o
    rw [e]
  have nh : ∀ c, H c = none → Hs c = none := fun c e => by
    cases q : Hs c with
    | none => rfl
    | some o => rw [sm c o q] at e; cases e
  have hit : ∀ c, H c = none → (c = S ∨ V.ref c ∈ ws) → (fun c => match Hs c with | some o => some o | none => if c = S ∨ V.ref c ∈ ws then H' c else none) c = H' c := fun c e k => by
    show (match Hs c with | some o => some o | none => _) = H' c
    rw [nh c e]
    exact if_pos k
  refine ⟨_, s1, fun c o e n => ?_, fun c o e => ?_, z3, ?_⟩
  · have e : (match Hs c with | some o => some o | none => if c = S ∨ V.ref c ∈ ws then H' c else none) = some o := e
    rw [n] at e
    by_cases k : c = S ∨ V.ref c ∈ ws
    · rw [if_pos k] at e
      have e0 : H' c = some o := e
      rcases k with rfl | k
      · refine ⟨z1, ?_⟩
        have : o = _ := Option.some.inj (e0.symm.trans z2)
        rw [this]
        exact Nfz.lst
      · obtain ⟨j, hj⟩ := List.mem_iff_getElem?.mp k
        obtain ⟨T, x, y, q1, q2, q3, q4⟩ := z5 j _ hj
        cases q1
        refine ⟨q3, ?_⟩
        have : o = _ := Option.some.inj (e0.symm.trans q4.1)
        rw [this]
        exact Nfz.tup
    · rw [if_neg k] at e
      cases e
  · have e : (match Hs c with | some o => some o | none => if c = S ∨ V.ref c ∈ ws then H' c else none) = some o := e
    cases q : Hs c with
    | some o' =>
      rw [q] at e
      cases e
      exact z3 c _ (sm c _ q)
    | none =>
      rw [q] at e
      by_cases k : c = S ∨ V.ref c ∈ ws
      · rw [if_pos k] at e
        exact e
      · rw [if_neg k] at e
        cases e
  · refine .lst (.inl (.inl ((hit S z1 (.inl rfl)).trans z2))) (dpa_of_get ?_ fun j w d hw hd => ?_)
    · unfold zipD
      rw [z4, List.length_zipWith, dpa_len dx, dpa_len dy]
    · obtain ⟨T, x, y, rfl, q2, q3, q4, q5, q6⟩ := z5 j w hw
      rw [Nat.zero_add] at q5 q6
      obtain ⟨d1, e1, f1⟩ := dpa_get' dx q5
      obtain ⟨d2, e2, f2⟩ := dpa_get' dy q6
      unfold zipD at hd
      rw [List.getElem?_zipWith, e1, e2] at hd
      cases hd
      exact .tup (.inl (.inl ((hit T q3 (.inr (List.mem_of_getElem? hw))).trans q4))) (.cons (dp_mono s1 _ _ f1) (.cons (dp_mono s1 _ _ f2) .nil))
section
variable {X : Cx} {fx : List Nat} {Wx : WX}
def gLz : GB := fun ds P => match ds with
  | [.list xs, .list ys] => P (.val (.list (zipD xs ys)))
  | _ => False
theorem pv_lzip {e e2 : Expr} {ta : TaD} {p pos p2 pos2 : Pos} (hc : X.calm = true) (hg : Gl X "zip") (hm : X.mg "zip" = none) (hg2 : Gl X "list") (hm2 : X.mg "list" = none) (ha : PvA X fx Wx [e, e2] ta)
    (hs : starEach [e, e2] X.env = (false, eval e X.env) :: starEach [e2] X.env := by rfl) (hpl : (backTo pos (starEach [e2] X.env)).any (·.1) = false := by rfl)
    (hs2 : starEach [.Call (.Name "zip" p) [e, e2] [] pos] X.env = (false, eval (.Call (.Name "zip" p) [e, e2] [] pos) X.env) :: starEach [] X.env := by rfl) :
    Pv X fx Wx (.Call (.Name "list" p2) [.Call (.Name "zip" p) [e, e2] [] pos] [] pos2) (tBlt gLz ta) := by
  refine PE.imp (pe_lzip hc hg hm hg2 hm2 ha hs hpl hs2) fun σ H Q h => ?_
  obtain ⟨Hs, ρ, P, PX, hr, ht, hq, hx⟩ := h
  refine ⟨Hs, ρ, _, PX, hr, ht, fun g1 xs rs h1 e1 rp1 p1 => ?_, hx⟩
  obtain ⟨ds, q1, q3⟩ := onSome_ex p1
  have lk := rp1.lk h1 q1
  unfold gLz at q3
  split at q3
  · obtain ⟨v, u, rfl, l1, l2⟩ := lk2 lk
    obtain ⟨a, vs, rfl, s1, d1⟩ := l1.lst h1.same
    obtain ⟨b, us, rfl, s2, d2⟩ := l2.lst h1.same
    refine ⟨a, b, vs, us, rfl, s1, s2, fun S H' ws z => ?_⟩
    obtain ⟨g', a', b', c', rfl, d', _⟩ := (lz_res h1.same d1 d2 z).go e1 h1
    exact hq g' _ _ a' b' c' (by rw [d']; exact q3)
  · exact q3.elim
end
end RR

/-! LayM: more lemmas for the meanings. -/
namespace RR
open PySem PySem.Spec L2
/-- a comprehension over encoded things that leaves the slots as they were -/
theorem lc_pure {α : Type} {ss : Srcs} {vs : List Nat} {g : TgD} {te : TeD} {P : PostE} (f hh : α → D) {ρ : Rho} (xs : List α) (hlen : xs.length ≤ 1000000) (no : noOwn ρ vs) (hd : P (.own (xs.map hh)) ρ)
    (hs : ∀ x ∈ xs, ∀ (acc : List D) (k : List D → Rho → Prop), k (acc ++ [hh x]) ρ → g (f x) (wipeD ρ vs) fun ρ1 => te ρ1 (fun r ρ3 => onSome (fz ρ3 r) fun p => srcOk ss (unwipe ρ p.2 vs) ∧ k (acc ++ [p.1]) (unwipe ρ p.2 vs)) noX) :
    lcD ss vs g tYesD te P (xs.map f) [] ρ := by
  refine lc_ind (fun items acc ρ' => ρ' = ρ ∧ ∃ pre post, xs = pre ++ post ∧ items = post.map f ∧ acc = pre.map hh) ?_ ?_ _ [] ρ ⟨rfl, [], xs, rfl, rfl, rfl⟩
  · rintro x rest acc ρ' ⟨rfl, pre, post, e1, e2, rfl⟩ k hk
    cases post with
    | nil => simp at e2
    | cons a post =>
      rw [List.map_cons, List.cons.injEq] at e2
      obtain ⟨rfl, rfl⟩ := e2
      refine ⟨no, ?_, hs a (by rw [e1]; simp) _ k (hk _ _ ⟨rfl, pre ++ [a], post, by rw [e1]; simp, rfl, by simp⟩)⟩
      rw [List.length_map]
      rw [e1, List.length_append, List.length_cons] at hlen
      omega
  · rintro acc ρ' ⟨rfl, pre, post, e1, e2, rfl⟩
    cases post with
    | nil => rw [List.append_nil] at e1; rw [← e1]; exact hd
    | cons a post => simp at e2
theorem src1 {i : Nat} {xs : List D} {ρ : Rho} (h : ρ[i]? = some (some (.own xs))) : srcOk [(i, xs)] ρ := by
  intro q hq
  obtain rfl : q = (i, xs) := by simpa using hq
  exact h
end RR

/-! LayN: a slot set to made data, whatever comes. -/
namespace RR
open PySem PySem.Spec L2
section
variable {X : Cx} {fx : List Nat} {Wx : WX} {e a b c : Expr} {es : List Expr} {pos : Pos}
def tSetF (i : Nat) (te : TeD) : TsD := fun DD ρ => te ρ (fun r ρ1 => onSome (fz ρ1 r) fun p => DD.nx (p.2.set i (some (.val p.1)))) DD.ex
theorem setF_imp {i : Nat} {te : TeD} (hi : i ∉ fx) (D : Ends) (σ : L2.St) (H : Hp) (h : liftS X fx Wx (tSetF i te) D σ H) : liftE X fx Wx te σ H (fun x H1 => gName i x σ H1 D.nx) := by
  obtain ⟨Hs, ρ, DD, hr, ht, hq⟩ := h
  refine ⟨Hs, ρ, _, _, hr, ht, fun g' v r h1 e1 rp p1 => ?_, hq.ex⟩
  obtain ⟨⟨d, ρ2⟩, q1, q2⟩ := onSome_ex p1
  obtain ⟨Hs', h2, e2, dp, _, _⟩ := freeze e1.ext h1 rp q1
  have := hq.nx _ (set_val (i := i) h2 dp) (ext_set_val e2 hi) q2
  simp only [e1.sg] at this
  exact this
theorem pv_setF (i : Nat) {x : Str} {te : TeD} {pos' : Pos} (hN : X.N.Nodup) (hi : X.N[i]? = some x) (hx : Loc X.env.scope x) (he : Pv X fx Wx e te) (hs : swapsWith e (some (.Name x pos')) pos.line X.env = pure false := by rfl) (hf : X.fn x = true ∨ X.env.scope.names.lookup x = some .local := by first | exact .inl rfl | exact .inr rfl | assumption)
    (hfx : i ∉ fx := by decide) : PvS X fx Wx (.Assign [.Name x pos'] e pos) (tSetF i te) :=
  PS.imp (ps_set hN hi hx he hs hf) fun D σ H h => setF_imp hfx D σ H h
theorem pv_setLcF (i : Nat) {y : Str} {py spos : Pos} {elt tg iter : Expr} {ifs : List Expr} {scope : Scope} {own : List (Str × Nat)} {ti : TiD} {g : TgD} {tt : TtD} {te : TeD} (fx' : List Nat) (hc : X.calm = true) (hN : X.N.Nodup) (hy : X.N[i]? = some y) (hyl : X.env.scope.names.lookup y = some .local)
    (hsw : swapsWith (.ListComp elt [⟨tg, iter, ifs, 0⟩] scope pos) (some (.Name y py)) spos.line X.env = pure true) (hi : PvI X fx Wx tg iter ti) (ok : BlkOk X.N X.env.scope scope own)
    (hg : ∀ (s : Shared) (H : Hp) (C : Addr) (cl : List (Str × Addr)) (fp : List Addr), PvG (X.blk s H scope (compEnvC scope cl C X.env) fp) fx' tg g) (ht : ∀ (s : Shared) (H : Hp) (C : Addr) (cl : List (Str × Addr)) (fp : List Addr), PTs (X.blk s H scope (compEnvC scope cl C X.env) fp) ifs (liftT (X.blk s H scope (compEnvC scope cl C X.env) fp) fx W0 tt))
    (he : ∀ (s : Shared) (H : Hp) (C : Addr) (cl : List (Str × Addr)) (fp : List Addr), Pv (X.blk s H scope (compEnvC scope cl C X.env) fp) fx W0 elt te) (hs : ∀ x, foldedSetIterable iter X.env x = pure x := by intro _; rfl)
    (hfi : i ∉ fx := by decide) (hfx : ∀ i ∈ fx, i ∈ fx' := by decide) (hvs : ((List.range X.N.length).all fun i => (own.map (·.2)).contains i || fx'.contains i) = true := by rfl) : PvS X fx Wx (.Assign [.Name y py] (.ListComp elt [⟨tg, iter, ifs, 0⟩] scope pos) spos) (tSetF i (tLcD ti g tt te (own.map (·.2)))) :=
  PS.impL (ps_setLc hc hN hy hyl hsw hi ok hg ht he hs) fun D σ H hl h => lc_imp hfx (hvs_of hvs) σ hl H _ (setF_imp hfi D σ H h)
end
theorem len_law : ∀ ws Q E, spLaw ws Q E → ws.length = 1 := by
  rintro ws Q E ⟨ns, rfl, _⟩
  rfl
end RR

/-! LayO: a call that is handed a new list of its own to change. -/
namespace RR
open PySem PySem.Spec L2
section
variable {X : Cx} {fx : List Nat} {Wx : WX} {e a b c : Expr} {es : List Expr} {pos : Pos}
/-- the new list in a slot of its own, behind the others -/
def lift1 (n : Nat) : List R → Option (List D × List R)
  | [] => none
  | .nst _ _ :: _ => none
  | .own xs :: rs => if rs.all (fun r => match r with | .own _ => false | .nst _ _ => false | _ => true) then some (xs, .var n :: rs) else none
  | r :: rs => (lift1 n rs).map fun p => (p.1, r :: p.2)
def tCallO (fxf : List Nat) (sp : SpD) (t : TaD) : TeD := fun ρ P PX => t ρ (fun rs ρ1 => onSome (lift1 ρ1.length rs) fun p => onSome (argW (ρ1 ++ [some (.own p.1)]) p.2) fun ws => chk (ndB (vars p.2) && modes fxf 0 p.2) <|
  sp ws (fun w ws' => P w.r ((backD (ρ1 ++ [some (.own p.1)]) p.2 ws').take ρ1.length)) (fun x ws' => PX x ((backD (ρ1 ++ [some (.own p.1)]) p.2 ws').take ρ1.length))) PX
theorem get_snoc {α : Type} {l : List α} {x y : α} {i : Nat} (h : (l ++ [x])[i]? = some y) : l[i]? = some y ∨ (i = l.length ∧ y = x) := by
  by_cases hi : i < l.length
  · rw [List.getElem?_append_left hi] at h
    exact .inl h
  · rw [List.getElem?_append_right (by omega)] at h
    have : i - l.length = 0 := by
      rcases Nat.eq_zero_or_pos (i - l.length) with z | z
      · exact z
      · rw [List.getElem?_eq_none (by simp; omega)] at h
        cases h
    rw [this] at h
    simp at h
    exact .inr ⟨by omega, h.symm⟩
theorem get_snoc_left {α : Type} {l : List α} {x y : α} {i : Nat} (h : l[i]? = some y) : (l ++ [x])[i]? = some y := by
  rw [List.getElem?_append_left (List.getElem?_eq_some_iff.mp h).1]
  exact h
theorem get_take {α : Type} {l : List α} {y : α} {n i : Nat} (h : (l.take n)[i]? = some y) : l[i]? = some y := by
  rw [List.getElem?_take] at h
  split at h
  · exact h
  · cases h
theorem owns_more {ρ : Rho} {σ : L2.St} {xs : List D} {p : Addr} (hl : σ.length = ρ.length) {i : Nat} {a : Addr} {ys : List D} (o : Owns (ρ ++ [some (.own xs)]) (σ ++ [some (.ref p)]) i a ys) : Owns ρ σ i a ys ∨ (i = ρ.length ∧ a = p) := by
  cases o with
  | top h1 h2 =>
    rcases get_snoc h1 with z | ⟨z0, z⟩
    · rcases get_snoc h2 with w | ⟨w0, w⟩
      · exact .inl (.top z w)
      · have := (List.getElem?_eq_some_iff.mp z).1; omega
    · rcases get_snoc h2 with w | ⟨w0, w⟩
      · have := (List.getElem?_eq_some_iff.mp w).1; omega
      · cases w
        exact .inr ⟨z0, rfl⟩
  | sub h1 h2 =>
    rcases get_snoc h1 with z | ⟨_, z⟩
    · exact .inl (.sub z h2)
    · cases z
  | reg h1 h2 =>
    rcases get_snoc h1 with z | ⟨_, z⟩
    · exact .inl (.reg z h2)
    · cases z
/-- the state with the new list as a further slot -/
theorem rel_more {g : Gst} {p : Addr} {us : List V} {xs : List D} (h : Rel X.K g) (h1 : g.H p = some (.lst us)) (h2 : DpAll X.K g.Hs us xs) (h3 : g.Hs p = none) (h4 : ¬ OwnAt g.ρ g.σ p) : Rel X.K ⟨g.Hs, g.ρ ++ [some (.own xs)], g.σ ++ [some (.ref p)], g.H⟩ := by
  have hl := h.len
  refine ⟨by simp [hl], h.same, fun i d hd => ?_, fun i ys hy => ?_, fun i j q ys zs a1 a2 => ?_, fun i q its hx => ?_, fun i a dd fs hx => ?_, fun i r hx => ?_⟩
  · rcases get_snoc hd with z | ⟨_, z⟩
    · obtain ⟨v, a, b⟩ := h.val i d z
      exact ⟨v, get_snoc_left a, b⟩
    · cases z
  · rcases get_snoc hy with z | ⟨z0, z⟩
    · obtain ⟨q, vs, a, b⟩ := h.own i ys z
      exact ⟨q, vs, get_snoc_left a, b⟩
    · cases z
      refine ⟨p, us, ?_, h1, h2, h3⟩
      rw [z0, ← hl]
      simp
  · rcases owns_more hl a1 with z | ⟨z, rfl⟩
    · rcases owns_more hl a2 with w | ⟨w, rfl⟩
      · exact h.sepO i j q ys zs z w
      · exact absurd ⟨i, ys, z⟩ h4
    · rcases owns_more hl a2 with w | ⟨w, _⟩
      · exact absurd ⟨j, zs, w⟩ h4
      · omega
  · rcases get_snoc hx with z | ⟨_, z⟩
    · obtain ⟨q1, q2⟩ := h.nst i q its z
      exact ⟨get_snoc_left q1, q2⟩
    · cases z
  · rcases get_snoc hx with z | ⟨_, z⟩
    · obtain ⟨q1, q2⟩ := h.exc i a dd fs z
      exact ⟨get_snoc_left q1, q2⟩
    · cases z
  · rcases get_snoc hx with z | ⟨_, z⟩
    · obtain ⟨v, q1, q2⟩ := h.reg i r z
      exact ⟨v, get_snoc_left q1, q2⟩
    · cases z
theorem own_more {g : Gst} {p a : Addr} {xs : List D} (hl : g.σ.length = g.ρ.length) : OwnAt (g.ρ ++ [some (.own xs)]) (g.σ ++ [some (.ref p)]) a → OwnAt g.ρ g.σ a ∨ a = p := by
  rintro ⟨i, ys, o⟩
  rcases owns_more hl o with z | ⟨_, z⟩
  · exact .inl ⟨i, ys, z⟩
  · exact .inr z
theorem owns_less {ρ : Rho} {σ : L2.St} {v : V} {n i : Nat} {a : Addr} {xs : List D} (o : Owns (ρ.take n) σ i a xs) : Owns ρ (σ ++ [some v]) i a xs := by
  cases o with
  | top h1 h2 => exact .top (get_take h1) (get_snoc_left h2)
  | sub h1 h2 => exact .sub (get_take h1) h2
  | reg h1 h2 => exact .reg (get_take h1) h2
/-- the further slot forgotten -/
theorem rel_less {Hs H : Hp} {ρ : Rho} {σ : L2.St} {v : V} (h : Rel X.K ⟨Hs, ρ, σ ++ [some v], H⟩) : Rel X.K ⟨Hs, ρ.take σ.length, σ, H⟩ := by
  have hl : σ.length + 1 = ρ.length := by have := h.len; simpa using this
  have sg : ∀ {i : Nat} {w : V} {y : Option W}, (ρ.take σ.length)[i]? = some y → (σ ++ [some v])[i]? = some (some w) → σ[i]? = some (some w) := fun {i w y} h1 h2 => by
    have hi : i < σ.length := by
      have := (List.getElem?_eq_some_iff.mp h1).1
      rw [List.length_take] at this
      omega
    rw [List.getElem?_append_left hi] at h2
    exact h2
  refine ⟨show σ.length = (ρ.take σ.length).length by rw [List.length_take]; omega, h.same, fun i d hd => ?_, fun i ys hy => ?_, fun i j q ys zs a1 a2 => h.sepO i j q ys zs (owns_less a1) (owns_less a2), fun i p its hx => let ⟨q1, q2⟩ := h.nst i p its (get_take hx); ⟨sg hx q1, q2⟩, fun i a dd fs hx => let ⟨q1, q2⟩ := h.exc i a dd fs (get_take hx); ⟨sg hx q1, q2⟩, fun i r hx => let ⟨v, q1, q2⟩ := h.reg i r (get_take hx); ⟨v, sg hx q1, q2⟩⟩
  · obtain ⟨w, a, b⟩ := h.val i d (get_take hd)
    exact ⟨w, sg hd a, b⟩
  · obtain ⟨q, vs, a, b⟩ := h.own i ys (get_take hy)
    exact ⟨q, vs, sg hy a, b⟩
theorem lift1_rep {K : PySem.W.Frag} {g : Gst} {H0 : Bg} {n : Nat} : ∀ {vs : List V} {rs rs' : List R} {xs : List D}, RepAll K g H0 vs rs → lift1 n rs = some (xs, rs') → n = g.ρ.length → g.σ.length = g.ρ.length →
    ∃ p us, g.H p = some (.lst us) ∧ DpAll K g.Hs us xs ∧ g.Hs p = none ∧ ¬ OwnAt g.ρ g.σ p ∧ (H0.1 p = none ∨ H0.2 p) ∧ RepAll K ⟨g.Hs, g.ρ ++ [some (.own xs)], g.σ ++ [some (.ref p)], g.H⟩ H0 vs rs'
  | [], [], _, _, _, h, _, _ => by cases h
  | v :: vs, .own ys :: rs, rs', xs, h, e, hn, hl => by
    simp only [lift1] at e
    split at e
    · rename_i hno
      cases e
      obtain ⟨⟨p, us, rfl, h1, h2, h3, h4, h5⟩, hr⟩ := h
      refine ⟨p, us, h1, h2, h3, h4, h5, ⟨?_, ⟨W.own ys, ?_⟩⟩, ?_⟩
      · show (g.σ ++ [some (V.ref p)])[n]? = _
        rw [hn, ← hl]
        simp
      · show (g.ρ ++ [some (W.own ys)])[n]? = _
        rw [hn]
        simp
      · -- the others are kept
        have : ∀ {vs : List V} {rs : List R}, RepAll K g H0 vs rs → rs.all (fun r => match r with | .own _ => false | .nst _ _ => false | _ => true) = true → RepAll K ⟨g.Hs, g.ρ ++ [some (.own ys)], g.σ ++ [some (.ref p)], g.H⟩ H0 vs rs := by
          intro vs rs
          induction rs generalizing vs with
          | nil =>
            intro h _
            cases vs with
            | nil => trivial
            | cons _ _ => exact h.elim
          | cons r rs ih =>
            intro h hno
            cases vs with
            | nil => exact h.elim
            | cons v vs =>
              rw [List.all_cons, Bool.and_eq_true] at hno
              refine ⟨?_, ih h.2 hno.2⟩
              cases r with
              | val d => exact h.1
              | own _ => cases hno.1
              | nst _ _ => cases hno.1
              | var i =>
                obtain ⟨h1, w, h2⟩ := h.1
                exact ⟨get_snoc_left h1, w, get_snoc_left h2⟩
        exact this hr hno
    · cases e
  | v :: vs, .nst _ _ :: rs, rs', xs, h, e, hn, hl => by cases e
  | v :: vs, .val d :: rs, rs', xs, h, e, hn, hl => by
    simp only [lift1, Option.map_eq_some_iff] at e
    obtain ⟨⟨ys, rs2⟩, e1, e2⟩ := e
    cases e2
    obtain ⟨p, us, h1, h2, h3, h4, h5, h6⟩ := lift1_rep h.2 e1 hn hl
    exact ⟨p, us, h1, h2, h3, h4, h5, h.1, h6⟩
  | v :: vs, .var i :: rs, rs', xs, h, e, hn, hl => by
    simp only [lift1, Option.map_eq_some_iff] at e
    obtain ⟨⟨ys, rs2⟩, e1, e2⟩ := e
    cases e2
    obtain ⟨p, us, h1, h2, h3, h4, h5, h6⟩ := lift1_rep h.2 e1 hn hl
    obtain ⟨z1, w, z2⟩ := h.1
    exact ⟨p, us, h1, h2, h3, h4, h5, ⟨get_snoc_left z1, w, get_snoc_left z2⟩, h6⟩
  | [], _ :: _, _, _, h, _, _, _ => h.elim
  | _ :: _, [], _, _, h, _, _, _ => h.elim
theorem pv_callO {k : Nat} {f : Addr} {fd : FuncData} {ps : List Str} {sp : SpD} {x : Str} {p : Pos} {t : TaD} {fxf : List Nat} (F : FnOk X.prog X.w X.K X.mg X.base (L2N.CX X.prog X.w) k f fd ps (lower X.K X.mg fxf sp)) (hr : Room k X.A) (hg : Gl X x) (hm : X.mg x = some (.ref f)) (hk : PySem.W.keepIn X.K (.ref f) = true) (hb : Binds X.K fd ps [])
    (tk : L2N.Takes X Wx) (ha : PvA X fx Wx (e :: es) t) (hdb : (x == ("__debug__" : Str)) = false := by decide)
    (he : starEach (e :: es) X.env = (false, eval e X.env) :: starEach es X.env := by rfl) (hpl : (backTo pos (starEach es X.env)).any (·.1) = false := by rfl) : Pv X fx Wx (.Call (.Name x p) (e :: es) [] pos) (tCallO fxf sp t) := by
  refine PE.imp (pe_callS F hr hg hm hk hb (fun σ => L2N.passAt tk σ) ha hdb he hpl) fun σ H Q h => ?_
  obtain ⟨Hs, ρ, P, PX, hr, ht, hq, hx⟩ := h
  refine ⟨Hs, ρ, _, PX, hr, ht, fun g1 vs rs h1 e1 rp1 p1 => ?_, hx⟩
  obtain ⟨⟨xs, rs'⟩, q0, p1⟩ := onSome_ex p1
  obtain ⟨ws, q1, p1⟩ := onSome_ex p1
  obtain ⟨q2, q3⟩ := chk_and p1
  rw [Bool.and_eq_true] at q2
  obtain ⟨q2, hm⟩ := q2
  have q2 := ndB_of q2
  obtain ⟨pp, us, y1, y2, y3, y4, y5, rp2⟩ := lift1_rep rp1 q0 rfl h1.len
  have h2 := rel_more (xs := xs) h1 y1 y2 y3 y4
  obtain ⟨Hs1, ρ1, σ1, H1⟩ := g1
  obtain rfl : σ1 = σ := e1.sg
  obtain ⟨hra, hav⟩ := rel_args h2 rp2 q1 q2
  have hl1 : σ1.length = ρ1.length := h1.len
  -- behind the call
  have fin : ∀ g', ∀ ws' : List W, g'.ρ = ws'.map some → g'.σ = vs.map some → Rel X.K g' → Ext [] ⟨Hs1, ws.map some, vs.map some, H1⟩ g' →
      Rel X.K ⟨g'.Hs, (backD (ρ1 ++ [some (.own xs)]) rs' ws').take ρ1.length, σ1, g'.H⟩ ∧ Ext fx ⟨Hs, ρ, σ1, H⟩ ⟨g'.Hs, (backD (ρ1 ++ [some (.own xs)]) rs' ws').take ρ1.length, σ1, g'.H⟩ ∧
      (∀ (i : Nat) (w : W), ρ[i]? = some (some w) → ∃ w', ((backD (ρ1 ++ [some (.own xs)]) rs' ws').take ρ1.length)[i]? = some (some w')) ∧
      ∀ a, OwnAt ((backD (ρ1 ++ [some (.own xs)]) rs' ws').take ρ1.length) σ1 a → OwnAt g'.ρ g'.σ a ∨ ∃ o, H1 a = some o := fun g' ws' hρ hσ h' e' => by
    obtain ⟨a, b, c⟩ := rel_back (fx := fx) h2 rp2 q1 q2 hρ hσ h' e'
    have up : ∀ a, OwnAt ((backD (ρ1 ++ [some (.own xs)]) rs' ws').take ρ1.length) σ1 a → OwnAt (backD (ρ1 ++ [some (.own xs)]) rs' ws') (σ1 ++ [some (.ref pp)]) a := fun a ⟨i, ys, o⟩ => ⟨i, ys, owns_less o⟩
    have om : ∀ a, OwnAt (ρ1 ++ [some (.own xs)]) (σ1 ++ [some (.ref pp)]) a → OwnAt ρ1 σ1 a ∨ a = pp := fun a z => own_more (g := ⟨Hs1, ρ1, σ1, H1⟩) hl1 z
    have bk : ∀ a, OwnAt ρ1 σ1 a ∨ a = pp → H a = none ∨ OwnAt ρ σ1 a := fun a z => by
      rcases z with z | rfl
      · exact (e1.ext.own a z).symm
      · exact y5
    have nn : ∀ a, H1 a = none → H a = none := fun a z => by
      cases q : H a with
      | none => rfl
      | some o =>
        obtain ⟨o', w⟩ := e1.ext.dom a o q
        have w : H1 a = some o' := w
        rw [z] at w; cases w
    have nv : ∀ a o, H a = some o → ¬ OwnAt ρ σ1 a → ¬ OwnAt (ρ1 ++ [some (.own xs)]) (σ1 ++ [some (.ref pp)]) a := fun a o q1 q2 z => by
      rcases bk a (om a z) with w | w
      · rw [q1] at w; cases w
      · exact q2 w
    refine ⟨?_, ⟨e1.ext.same.trans e'.same, fun a o x n => ?_, fun a o x n => ?_, fun a o x => ?_, fun a x => ?_, fun _ _ => rfl, rfl⟩, fun i w hi => ?_, fun a x => c a (up a x)⟩
    · rw [← hl1]
      exact rel_less (v := .ref pp) a
    · cases q : Hs1 a with
      | some o1 =>
        have : o1 = o := Option.some.inj ((e'.same a o1 q).symm.trans x)
        subst this
        exact e1.ext.new a o1 q n
      | none =>
        rcases b.ext.new a o x q with ⟨z, nf⟩ | ⟨z, nf⟩ | ⟨z1, z2⟩
        · exact .inl ⟨nn a z, nf⟩
        · exact (bk a (om a z)).imp (fun y => ⟨y, nf⟩) fun y => .inl ⟨y, nf⟩
        · cases r : H a with
          | none => exact .inl ⟨r, z1.nfz⟩
          | some o' =>
            by_cases w : OwnAt ρ σ1 a
            · exact .inr (.inl ⟨w, z1.nfz⟩)
            · have : o' = o := Option.some.inj ((e1.ext.frame a o' r w).symm.trans z2)
              exact .inr (.inr ⟨z1, by rw [← this]; exact r⟩)
    · exact b.ext.frame a o (e1.ext.frame a o x n) (nv a o x n)
    · obtain ⟨o1, x1⟩ := e1.ext.dom a o x
      exact b.ext.dom a o1 x1
    · rcases b.ext.own a (up a x) with z | z
      · exact (bk a (om a z)).symm
      · exact .inr (nn a z)
    · obtain ⟨w1, z1⟩ := e1.kp i w hi
      have z1 : ρ1[i]? = some (some w1) := z1
      obtain ⟨w2, z2⟩ := b.kp i w1 (show (ρ1 ++ [some (.own xs)])[i]? = some (some w1) from get_snoc_left z1)
      refine ⟨w2, ?_⟩
      rw [List.getElem?_take_of_lt (List.getElem?_eq_some_iff.mp z1).1]
      exact z2
  refine ⟨Hs1, ws, _, _, hra, args_ok q1 hm, q3, fun g' v w ws' hρ hσ h' e' rp' pw => ?_, fun g' cls d x ws' hρ hσ h' e' xr px => ?_⟩
  · obtain ⟨a, b, kp, c⟩ := fin g' ws' hρ hσ h' e'
    refine hq ⟨g'.Hs, _, σ1, g'.H⟩ v w.r a ⟨b, rfl, kp⟩ ?_ pw
    refine Rep.back e1.ext (g' := ⟨g'.Hs, _, σ1, g'.H⟩) ?_
    cases w with
    | val d => exact rp'
    | exc _ _ _ => exact rp'
    | reg _ => exact rp'
    | own ys =>
      obtain ⟨p, us, z1, z2, z3, z4, z5, z6⟩ := rp'
      refine ⟨p, us, z1, z2, z3, z4, fun z => ?_, .inl (z6.elim id False.elim)⟩
      rcases c p z with y | ⟨o, y⟩
      · exact z5 y
      · have z6 : H1 p = none := z6.elim id False.elim
        rw [z6] at y
        cases y
    | nst p its =>
      obtain ⟨z1, z2, z3, z4⟩ := rp'
      have z4 : ∀ q ∈ ads its, H1 q = none := fun q m => (z4 q m).elim id False.elim
      refine ⟨z1, z2, fun q hq z => ?_, fun q m => .inl (z4 q m)⟩
      rcases List.mem_cons.mp hq with rfl | m
      · obtain ⟨us, w, m⟩ := OwnAt.there a z
        obtain ⟨⟨vs', t, _⟩, _⟩ := z2
        exact m.1 _ (Option.some.inj (w.symm.trans t))
      · rcases c q z with y | ⟨o, y⟩
        · exact z3 q hq y
        · have z4 : H1 q = none := z4 q m
          rw [z4] at y
          cases y
  · obtain ⟨a, b, kp, c⟩ := fin g' ws' hρ hσ h' e'
    exact hx ⟨g'.Hs, _, σ1, g'.H⟩ cls d x a b xr px
theorem pv_callOC {j k : Nat} {ps : List Str} {sp : SpD} {x : Str} {p : Pos} {t : TaD} {fxf : List Nat} (C : Cal X.prog X.w X.K X.mg X.base j x ps fxf sp) (hj : j ≤ k) (hr : Room k X.A) (hg : Gl X x)
    (tk : L2N.Takes X Wx) (ha : PvA X fx Wx (e :: es) t) (hdb : (x == ("__debug__" : Str)) = false := by decide)
    (he : starEach (e :: es) X.env = (false, eval e X.env) :: starEach es X.env := by rfl) (hpl : (backTo pos (starEach es X.env)).any (·.1) = false := by rfl) : Pv X fx Wx (.Call (.Name x p) (e :: es) [] pos) (tCallO fxf sp t) := by
  obtain ⟨f, fd, F, hm, hk, hb, _⟩ := C
  exact pv_callO (F.mono hj) hr hg hm hk hb tk ha hdb he hpl
end
end RR

/-! LayP: one of some new lists. -/
namespace RR
open PySem PySem.Spec L2
section
variable {X : Cx} {fx : List Nat} {Wx : WX} {e a b c : Expr} {es : List Expr} {pos : Pos}
/-- [.., ..][i], the thing itself -/
def tPick (ta : TaD) (ti : TeD) : TeD := fun ρ P PX => ta ρ (fun rs ρ1 => chk (decide (rs.length ≤ 1000000)) <| ti ρ1 (fun ri ρ2 => onSome (asI (rd ρ2 ri)) fun i => onSome (atI rs i) fun r => match r with
  | .var _ => False
  | r => P r ρ2) PX) PX
theorem atI_rep {K : PySem.W.Frag} {g : Gst} {H0 : Bg} {vs : List V} {rs : List R} {i : Int} {r : R} (h : RepAll K g H0 vs rs) (e : atI rs i = some r) : ∃ v, atI vs i = some v ∧ Rep K g H0 v r := by
  unfold atI at e ⊢
  rw [h.len]
  obtain ⟨j, h1, h2⟩ := Option.bind_eq_some_iff.mp e
  obtain ⟨v, h3, h4⟩ := h.get h2
  exact ⟨v, by rw [h1]; exact h3, h4⟩
theorem pv_pick {ta : TaD} {ti : TeD} {lp : Pos} (ha : PvA X fx Wx es ta) (hi : Pv X fx Wx b ti) (hp : PlainIx b := by exact fun _ _ => rfl) : Pv X fx Wx (.Subscript (.List es lp) b pos) (tPick ta ti) := by
  refine PE.imp (pe_ix ix_seq (pe_lst ha) hi hp) fun σ H Q h => ?_
  obtain ⟨Hs, ρ, P, PX, hr, ht, hq, hx⟩ := h
  refine ⟨Hs, ρ, _, PX, hr, ht, fun g1 vs rs h1 e1 rp1 p1 => ?_, hx⟩
  obtain ⟨q0, p1⟩ := chk_and p1
  have q0 := of_decide_eq_true q0
  refine ⟨by rw [rp1.len]; exact mill q0, fun p np => ?_⟩
  -- the list of them stands apart
  have n2 : g1.Hs p = none := by
    cases q : g1.Hs p with
    | none => rfl
    | some o =>
      rw [h1.same p o q] at np
      cases np
  have no : ¬ OwnAt g1.ρ g1.σ p := fun z => by
    obtain ⟨us, w, _⟩ := z.there h1
    rw [np] at w
    cases w
  have r2 := rel_upd (X := X) (o := .lst vs) h1 n2 no (fun fv z => nomatch z.symm.trans np) (fun us z => nomatch z.symm.trans np)
  obtain ⟨Hs1, ρ1, σ1, H1⟩ := g1
  obtain rfl : σ1 = σ := e1.sg
  have go : GoE fx ⟨Hs1, ρ1, σ1, H1⟩ ⟨Hs1, ρ1, σ1, upd H1 p (.lst vs)⟩ := ⟨⟨.refl _, fun a o x n => (by have x : Hs1 a = some o := x; have n : Hs1 a = none := n; rw [n] at x; cases x), fun a o x _ => same_upd np a o x, fun a o x => ⟨o, same_upd np a o x⟩, fun a x => .inl x, fun _ _ => rfl, rfl⟩, rfl, fun i w x => ⟨w, x⟩⟩
  refine ⟨Hs1, ρ1, _, PX, r2, p1, fun g2 y ri h2 e2 rp2 p2 => ?_, hx.go (e1.trans go).ext⟩
  obtain ⟨i, q1, p2⟩ := onSome_ex p2
  obtain ⟨r, q2, p2⟩ := onSome_ex p2
  obtain rfl := (rp2.lk h2 (asI_of q1)).int
  have rp3 : RepAll X.K g2 _ vs rs := RepAll.keep (go.trans e2) rp1
  obtain ⟨v, z1, z2⟩ := atI_rep rp3 q2
  have hp2 : g2.H p = some (.lst vs) := e2.ext.frame p _ upd_same no
  refine .inl ⟨p, vs, i, v, rfl, rfl, .inl (.inl hp2), z1, ?_⟩
  cases r with
  | var j => exact p2.elim
  | val d => exact hq g2 v (.val d) h2 ((e1.trans go).trans e2) z2 p2
  | own xs => exact hq g2 v (.own xs) h2 ((e1.trans go).trans e2) z2 p2
  | nst p its => exact hq g2 v (.nst p its) h2 ((e1.trans go).trans e2) z2 p2
end
end RR

/-! LayQ: raise. -/
namespace RR
open PySem PySem.Spec L2
/-- a class of exceptions of the text, without an __init__ -/
def XCl (K : PySem.W.Frag) (mg : Str → Option Value) (x : Str) : Prop := ∃ C, mg x = some (.ref C) ∧ PySem.W.excIn K C [.type "ValueError", .type "Exception", .type "BaseException", .type "object"] "ValueError.__new__" = true ∧ PySem.W.keepIn K (.ref C) = true ∧
  PySem.W.subIn K (.ref C) (.type "BaseException") = some true ∧ PySem.W.typeIn K (.ref C) = some (.type "type")
section
variable {X : Cx} {fx : List Nat} {Wx : WX} {pos : Pos}
def tRaiseD (x : String) : TsD := fun DD ρ => DD.ex ⟨x, []⟩ ρ
theorem pv_raise {x : String} {m : Str} {j : Nat} {p p2 pos2 : Pos} (c : XCl X.K X.mg x) (hc : X.calm = true) (tk : L2N.Takes X Wx) (hg : Gl X x) (hdb : ((x : Str) == ("__debug__" : Str)) = false := by decide) :
    PvS X fx Wx (.Raise (some (.Call (.Name x p) [.Constant (.str m) j p2] [] pos)) none pos2) (tRaiseD x) := by
  obtain ⟨C, g, q, k, b, t⟩ := c
  refine PS.imp (L2N.ps_raise hc tk (L2N.pmk_own PySem.F.excBase_ValueError q g k (raises_own b t) hg hdb)) fun D σ H h => ?_
  obtain ⟨Hs, ρ, DD, hr, ht, hq⟩ := h
  exact hq.ex ⟨Hs, ρ, σ, H⟩ (.ref C) none ⟨x, []⟩ hr .refl ⟨g, .inl ⟨rfl, rfl⟩⟩ ht
end
end RR

/-! LayR: a call that only looks at its arguments and hands back a flat thing: the caller's lists stay its own. -/
namespace RR
open PySem PySem.Spec L2
def flatW : W → Bool
  | .val d => flatD d
  | .own xs => xs.all flatD
  | .exc _ _ _ => false
  | .nst _ _ => false
  | .reg _ => false
section
variable {X : Cx} {fx : List Nat} {Wx : WX} {e a b c : Expr} {es : List Expr} {pos : Pos}
def tCallB (sp : SpD) (t : TaD) : TeD := fun ρ P PX => t ρ (fun rs ρ1 => onSome (rdAll ρ1 rs) fun ds => sp (ds.map .val) (fun w _ => flatW w = true ∧ P w.r ρ1) (fun x _ => x.fs = [] ∧ PX x ρ1)) PX
theorem dp_flat {K : PySem.W.Frag} {H H' : Hp} {v : V} {d : D} (f : flatD d = true) (h : Dp K H v d) : Dp K H' v d := by
  cases h with
  | non => exact .non
  | bl b => exact .bl b
  | int i => exact .int i
  | str x => exact .str x
  | lst _ _ => cases f
  | tup _ _ => cases f
theorem dpa_flat {K : PySem.W.Frag} {H H' : Hp} : ∀ {vs : List V} {ds : List D}, ds.all flatD = true → DpAll K H vs ds → DpAll K H' vs ds
  | _, [], _, h => by cases h; exact .nil
  | _, d :: ds, f, h => by
    rw [List.all_cons, Bool.and_eq_true] at f
    cases h with
    | cons h1 h2 => exact .cons (dp_flat f.1 h1) (dpa_flat f.2 h2)
theorem lkAll_len {K : PySem.W.Frag} {Hs H : Hp} : ∀ {vs : List V} {ds : List D}, SemB.LkAll K Hs H vs ds → vs.length = ds.length
  | [], [], _ => rfl
  | _ :: _, _ :: _, h => by rw [List.length_cons, List.length_cons, lkAll_len h.2]
  | [], _ :: _, h => h.elim
  | _ :: _, [], h => h.elim
theorem lkAll_get {K : PySem.W.Frag} {Hs H : Hp} : ∀ {vs : List V} {ds : List D} {i : Nat} {d : D}, SemB.LkAll K Hs H vs ds → ds[i]? = some d → ∃ v, vs[i]? = some v ∧ Lk K Hs H v d
  | [], [], i, d, _, e => by simp at e
  | v :: vs, d' :: ds, 0, d, h, e => by simp at e; subst e; exact ⟨v, by simp, h.1⟩
  | v :: vs, d' :: ds, i + 1, d, h, e => by
    obtain ⟨v', a, b⟩ := lkAll_get (i := i) h.2 (by simpa using e)
    exact ⟨v', by simpa using a, b⟩
  | [], _ :: _, _, _, h, _ => h.elim
  | _ :: _, [], _, _, h, _ => h.elim
theorem no_own {ds : List D} {vs : List V} {a : Addr} : ¬ OwnAt ((ds.map W.val).map some) (vs.map some) a := fun ⟨i, xs, o⟩ => by
  have h1 : ∃ w, (∀ d, w ≠ W.val d) ∧ (ds.map W.val)[i]? = some w := by
    cases o with
    | top h1 _ => exact ⟨_, fun d z => (by cases z), map_some_get.mp h1⟩
    | sub h1 _ => exact ⟨_, fun d z => (by cases z), map_some_get.mp h1⟩
    | reg h1 _ => exact ⟨_, fun d z => (by cases z), map_some_get.mp h1⟩
  obtain ⟨w, h0, h1⟩ := h1
  rw [List.getElem?_map] at h1
  cases q : ds[i]? with
  | none => rw [q] at h1; cases h1
  | some d => rw [q] at h1; exact h0 d (Option.some.inj h1).symm
theorem pv_callB {k : Nat} {f : Addr} {fd : FuncData} {ps : List Str} {sp : SpD} {x : Str} {p : Pos} {t : TaD} {fxf : List Nat} (F : FnOk X.prog X.w X.K X.mg X.base (L2N.CX X.prog X.w) k f fd ps (lower X.K X.mg fxf sp)) (hr : Room k X.A) (hg : Gl X x) (hm : X.mg x = some (.ref f)) (hk : PySem.W.keepIn X.K (.ref f) = true) (hb : Binds X.K fd ps [])
    (tk : L2N.Takes X Wx) (ha : PvA X fx Wx (e :: es) t) (hdb : (x == ("__debug__" : Str)) = false := by decide)
    (he : starEach (e :: es) X.env = (false, eval e X.env) :: starEach es X.env := by rfl) (hpl : (backTo pos (starEach es X.env)).any (·.1) = false := by rfl) : Pv X fx Wx (.Call (.Name x p) (e :: es) [] pos) (tCallB sp t) := by
  refine PE.imp (pe_callS F hr hg hm hk hb (fun σ => L2N.passAt tk σ) ha hdb he hpl) fun σ H Q h => ?_
  obtain ⟨Hs, ρ, P, PX, hr, ht, hq, hx⟩ := h
  refine ⟨Hs, ρ, _, PX, hr, ht, fun g1 vs rs h1 e1 rp1 p1 => ?_, hx⟩
  obtain ⟨ds, q1, q3⟩ := onSome_ex p1
  have lk := rp1.lk h1 q1
  obtain ⟨Hs1, ρ1, σ1, H1⟩ := g1
  obtain rfl : σ1 = σ := e1.sg
  have hl := lkAll_len lk
  -- what stands behind the call
  have fin : ∀ g', Ext [] ⟨H1, (ds.map W.val).map some, vs.map some, H1⟩ g' → Rel X.K ⟨Hs1, ρ1, σ1, g'.H⟩ ∧ GoE fx ⟨Hs1, ρ1, σ1, H1⟩ ⟨Hs1, ρ1, σ1, g'.H⟩ := fun g' e' => by
    have sm : Same H1 g'.H := fun a o x => e'.frame a o x no_own
    have h1s : Same Hs1 H1 := h1.same
    refine ⟨⟨h1.len, h1s.trans sm, h1.val, fun i xs hx => ?_, h1.sepO, fun i p its hx => let ⟨q1, q2⟩ := h1.nst i p its hx; ⟨q1, q2.mono (.refl _) (fun _ k => sm _ _ k) fun q xs us _ y n => ⟨sm _ _ y, n⟩⟩, fun i a dd fs hx => let ⟨q1, q2⟩ := h1.exc i a dd fs hx; ⟨q1, q2.mono (.refl _) fun _ k => sm _ _ k⟩, fun i r hx => let ⟨v, q1, q2⟩ := h1.reg i r hx; ⟨v, q1, q2.mono (.refl _) fun _ _ _ y n => ⟨sm _ _ y, n⟩⟩⟩, ⟨⟨.refl _, fun a o x n => (by have x : Hs1 a = some o := x; have n : Hs1 a = none := n; rw [n] at x; cases x), fun a o x _ => sm a o x, fun a o x => ⟨o, sm a o x⟩, fun a x => .inl x, fun _ _ => rfl, rfl⟩, rfl, fun i w x => ⟨w, x⟩⟩⟩
    obtain ⟨q, us, a, b, c, d⟩ := h1.own i xs hx
    exact ⟨q, us, a, sm _ _ b, c, d⟩
  refine ⟨H1, ds.map .val, _, _, ⟨by simp [hl], .refl _, fun i d hd => ?_, fun i xs hx => ?_, fun i j q xs ys a1 _ => absurd ⟨i, xs, a1⟩ no_own, fun i p its hx => ?_, fun i a dd fs hx => ?_, fun i r hx => ?_⟩, fun i w z => ?_, q3, fun g' v w ws' hρ hσ h' e' rp' pw => ?_, fun g' cls d x ws' hρ hσ h' e' xr px => ?_⟩
  · have hd := map_some_get.mp hd
    rw [List.getElem?_map] at hd
    cases q : ds[i]? with
    | none => rw [q] at hd; cases hd
    | some d' =>
      rw [q] at hd
      cases hd
      obtain ⟨v, a, b⟩ := lkAll_get lk q
      exact ⟨v, map_some_get.mpr a, b.dp h1.same⟩
  · have hx := map_some_get.mp hx
    rw [List.getElem?_map] at hx
    cases q : ds[i]? with
    | none => rw [q] at hx; cases hx
    | some d' => rw [q] at hx; cases hx
  · have hx := map_some_get.mp hx
    rw [List.getElem?_map] at hx
    cases q : ds[i]? with
    | none => rw [q] at hx; cases hx
    | some d' => rw [q] at hx; cases hx
  · have hx := map_some_get.mp hx
    rw [List.getElem?_map] at hx
    cases q : ds[i]? with
    | none => rw [q] at hx; cases hx
    | some d' => rw [q] at hx; cases hx
  · have hx := map_some_get.mp hx
    rw [List.getElem?_map] at hx
    cases q : ds[i]? with
    | none => rw [q] at hx; cases hx
    | some d' => rw [q] at hx; cases hx
  · rw [List.getElem?_map] at z
    cases q : ds[i]? with
    | none => rw [q] at z; cases z
    | some d' => rw [q] at z; cases z; trivial
  · obtain ⟨a, b⟩ := fin g' e'
    obtain ⟨fl, pw⟩ := pw
    refine hq ⟨Hs1, ρ1, σ1, g'.H⟩ v w.r a (e1.trans b) ?_ pw
    refine Rep.back e1.ext (g' := ⟨Hs1, ρ1, σ1, g'.H⟩) ?_
    cases w with
    | val d => exact dp_flat fl rp'
    | exc _ _ _ => cases fl
    | nst _ _ => cases fl
    | reg _ => cases fl
    | own xs =>
      obtain ⟨q, us, z1, z2, z3, z4, z5, z6⟩ := rp'
      have z6 : H1 q = none := z6.elim id False.elim
      refine ⟨q, us, z1, z2, dpa_flat fl z3, ?_, fun z => ?_, .inl z6⟩
      · show Hs1 q = none
        cases y : Hs1 q with
        | none => rfl
        | some o =>
          have : H1 q = some o := h1.same q o y
          rw [z6] at this; cases this
      · obtain ⟨us2, y, _⟩ := OwnAt.there h1 z
        have y : H1 q = some us2 := y
        rw [z6] at y; cases y
  · obtain ⟨a, b⟩ := fin g' e'
    obtain ⟨fl, px⟩ := px
    refine hx ⟨Hs1, ρ1, σ1, g'.H⟩ cls d x a (e1.trans b).ext ⟨xr.1, ?_⟩ px
    rcases xr.2 with z | ⟨dd, fv, y0, _⟩
    · exact .inl z
    · exact absurd fl y0
theorem pv_callBC {j k : Nat} {ps : List Str} {sp : SpD} {x : Str} {p : Pos} {t : TaD} {fxf : List Nat} (C : Cal X.prog X.w X.K X.mg X.base j x ps fxf sp) (hj : j ≤ k) (hr : Room k X.A) (hg : Gl X x)
    (tk : L2N.Takes X Wx) (ha : PvA X fx Wx (e :: es) t) (hdb : (x == ("__debug__" : Str)) = false := by decide)
    (he : starEach (e :: es) X.env = (false, eval e X.env) :: starEach es X.env := by rfl) (hpl : (backTo pos (starEach es X.env)).any (·.1) = false := by rfl) : Pv X fx Wx (.Call (.Name x p) (e :: es) [] pos) (tCallB sp t) := by
  obtain ⟨f, fd, F, hm, hk, hb, _⟩ := C
  exact pv_callB (F.mono hj) hr hg hm hk hb tk ha hdb he hpl
end
end RR

/-! LayS: a list so many times. -/
namespace RR
open PySem PySem.Spec L2 PyProof.Rows
theorem q_mulI (l : Addr) (items : Array Value) (n : Nat) (d : Option Addr) (sl : Array (Option Value)) (x : Int) (u : Tok) (hc0 : ¬(!Builtin.List.listFitsIndex x) = true)
    (hc1 : ¬items.size * x.toNat > (2 ^ 63 - 1) / 8) (hc2 : ¬Builtin.List.listTooLong (items.size * x.toNat) = true) :
    Meets (Builtin.«list.__mul__» ⟨[.ref l, .int x u], []⟩) (fun _ R s => s.heap.get? l = some { cls := .type "list", dict := d, data := .seq items n, slots := sl } ∧ R (.ok (.ret (Value.ref s.heap.objs.size))) { s with heap := s.heap.push { cls := Value.type "list", data := Data.seq (List.foldl (fun x1 x2 => x1 ++ x2) #[] (List.replicate (if items.isEmpty = true then 0 else x.toNat) items)) }, toks := s.toks }) :=
  .of_wp fun prog w A R s h => by
    obtain ⟨hp, g, d, tk, os⟩ := s; obtain ⟨hl, h⟩ := h
    have hsz := AutoListH.joined_fits hc2
    wp_walk; refine wpAny_ite_false (decide_eq_false (Nat.not_lt.mpr hsz)) ?_; wp_walk; exact ⟨_, rfl, h⟩
theorem q_rmulI (a : Int) (t : Tok) (l : Addr) (items : Array Value) (n : Nat) (d : Option Addr) (sl : Array (Option Value)) :
    Meets (Builtin.«int.__rmul__» ⟨[.int a t, .ref l], []⟩) (fun _ R s => s.heap.get? l = some { cls := .type "list", dict := d, data := .seq items n, slots := sl } ∧ R (.ok (.ret Value.notImplemented)) s) :=
  .of_wp fun prog w A R s h => by obtain ⟨hp, g, d, tk, os⟩ := s; obtain ⟨hl, h⟩ := h; wp_walk; exact ⟨_, rfl, h⟩
section
variable {X : Cx}
def rRepS (K : PySem.W.Frag) : R2 := fun x y H Q => ∃ l k xs, x = .ref l ∧ y = .int k ∧ SqL K H l xs ∧ -(2 ^ 63) ≤ k ∧ k < 2 ^ 63 ∧ xs.length * k.toNat ≤ sizeLine ∧
  ∀ p, H p = none → Q (.ref p) (upd H p (.lst (List.replicate k.toNat xs).flatten))
theorem op_repS : OpR X (binaryOp .Mult) (rRepS X.K) := by
  intro pins s σ H x y v u Q I rx ry h
  obtain ⟨l, k, xs, rfl, rfl, hH, h1, h2, hz, q⟩ := h
  cases rx
  obtain ⟨t, rfl⟩ := ry
  obtain ⟨its, r, ⟨⟨cls, dd, data, sl⟩, n, e, hc, hdd, hd⟩, z⟩ := I.list hH
  have hc1 : cls = Value.type "list" := hc
  have hd1 : data = Data.seq its.toArray n := hd
  subst hc1 hd1
  have hl := r.length
  have hlen : its.toArray.size * k.toNat ≤ sizeLine := by rw [List.size_toArray, ← hl]; exact hz
  have hcap : ¬ its.toArray.size * k.toNat > (2 ^ 63 - 1) / 8 := by
    have : (sizeLine : Nat) ≤ (2 ^ 63 - 1) / 8 := by decide
    omega
  have hfit : ¬ (!Builtin.List.listFitsIndex k) = true := by
    rw [fitsIndex_both h1 h2]
    exact Bool.false_ne_true
  have hlong : ¬ Builtin.List.listTooLong (its.toArray.size * k.toNat) = true := by
    rw [notLongL hlen]
    exact Bool.false_ne_true
  have hnew : List.foldl (fun x1 x2 => x1 ++ x2) #[] (List.replicate (if its.toArray.isEmpty = true then 0 else k.toNat) its.toArray) = (List.replicate k.toNat its).flatten.toArray := by
    have f0 : ∀ m : Nat, List.foldl (fun x1 x2 => x1 ++ x2) #[] (List.replicate m its.toArray) = (List.replicate m its).flatten.toArray := fun m => by
      have := foldl_rep its m []
      rw [List.nil_append] at this
      exact this
    rw [f0]
    cases its with
    | nil => simp
    | cons a r' => rw [if_neg (by simp)]
  refine wpAny_binaryOp_repeat_ref (T := "list") (U := "int") (by decide) ⟨_, e, rfl⟩ (fun s' => typeIs_int s' k t) noFill_list_mul F.fills_int_mul F.slot_int_rmul repeat_list F.slot_int_index.lookup
    (call_meets F.slot_int_rmul (typeIs_int s k t) F.entry_int_rmul (F.args_int_rmul_2 _ _) (q_rmulI k t l its.toArray n dd sl)
      ⟨e, rfl, ⟨_, e, rfl⟩, call_meets F.slot_list_mul ⟨_, e, rfl⟩ F.entry_list_mul (F.args_list_mul_2 _ _) (q_mulI l its.toArray n dd sl k t hfit hcap hlong) ⟨e, ?_⟩⟩)
  rw [hnew]
  exact ⟨.ref _, _, I.lnew (t' := s.toks) (r.rep k.toNat) (by rw [PyProof.Rows.lm_len_rep_flat, Nat.mul_comm]; exact hz), rfl, q _ I.fresh⟩
end
theorem gTup2_of {i j : Nat} {d1 d2 : D} {ρ : Rho} {P : Rho → Prop} (h : P ((ρ.set i (some (.val d1))).set j (some (.val d2)))) : gTupD 2 (gsConsD (gNameD i) (gsConsD (gNameD j) gsNilD)) (.tuple [d1, d2]) ρ P := h
theorem cst_len : ∀ {us : List Value} {ds : List D}, cstD us = some ds → us.length = ds.length
  | [], ds, h => by
    obtain rfl : [] = ds := Option.some.inj h
    rfl
  | v :: vs, ds, h => by
    obtain ⟨d, _, h1⟩ := Option.bind_eq_some_iff.mp h
    obtain ⟨es, h2, rfl⟩ := Option.map_eq_some_iff.mp h1
    rw [List.length_cons, List.length_cons, cst_len h2]
def gMulA : G2 := fun x y P => match x, y with
  | .int i, .int j => mulOk i j ∧ P (.val (.int (i * j)))
  | .list xs, .int j => j < 1000 ∧ -1000 < j ∧ xs.length * j.toNat ≤ 1000000 ∧ P (.own (List.replicate j.toNat xs).flatten)
  | _, _ => False
section
variable {X : Cx} {K : PySem.W.Frag}
theorem op_mulA : OpR X (binaryOp .Mult) (fun x y H Q => rI mulOk (fun i j => .int (i * j)) x y H Q ∨ rRepS X.K x y H Q) := op_mulB.or op_repS
theorem sem_mulA : Sem2 K (fun x y H Q => rI mulOk (fun i j => .int (i * j)) x y H Q ∨ rRepS K x y H Q) gMulA := by
  intro Hs H x y dx dy P Q sm lx ly h k
  unfold gMulA at h
  split at h
  · obtain rfl := lx.int
    obtain rfl := ly.int
    exact .inl ⟨_, _, rfl, rfl, h.1, k _ _ _ h.2 (res_int sm)⟩
  · obtain ⟨p, vs, rfl, s1, d1⟩ := lx.lst sm
    obtain rfl := ly.int
    have l1 := dpa_len d1
    exact .inr ⟨p, _, vs, rfl, rfl, s1, by omega, by omega, by rw [l1]; exact mill h.2.2.1, fun z nz => k _ _ _ h.2.2.2 (res_list nz (dpa_rep d1 _))⟩
  · exact h.elim
end
end RR

/-! LayT: list(reversed(xs)). -/
namespace RR
open PySem PySem.Spec L2 PyProof.Rows RT
section
variable {prog : Program} {w : World} {A : Around} {E : Value → Shared → Prop} {s : Shared}
theorem extend_rev {it l S : Addr} {items : Array Value} {c₀ : Nat} {R : Result → Shared → Prop} {res : Value} (hh : A.handled = none) (hit : s.heap.IsRevIter it l ((items.size : Int) - 1)) (hl : s.heap.IsList l items) (hne : l ≠ it) (hn : items.size ≤ sizeLine)
    (hSi : S ≠ it) (hSl : S ≠ l) (hS : s.heap.get? S = some { cls := .type "list", data := .seq #[] c₀ })
    (hR : ∀ (h' : Heap) (tk : Nat) (acc : Array Value) (c' : Nat), (∀ b o, b ≠ it → b ≠ S → s.heap.get? b = some o → h'.get? b = some o) → h'.get? S = some { cls := .type "list", data := .seq acc c' } → ItemsOf (fun i v => items[items.size - 1 - i]? = some v) acc items.size → R (.ok (.ret res)) { s with heap := h', toks := tk }) :
    wpAny (model prog w) A.in1 (Builtin.List.listExtendWith (.ref S) (.ref it) res)
      (fun fin s' => match fin with | .done f => R (.ok f) s' | .again c' => c'.quiet = true ∧ codeAny (model prog w) A c' R s') (fun e s' => R (.error e) s') s := by
  have W := (Walks.listRev (prog := prog) (w := w) (A := A.in1) hh it l hne items).toS
  have hSf : S ∉ [it, l] := by simp only [List.mem_cons, List.not_mem_nil, or_false, not_or]; exact ⟨hSi, hSl⟩
  have hT : s.TypeIs (.ref it) "list_reverseiterator" := hit.typeIs
  have h1 : Builtin.List.listSameRef (.ref S) (.ref it) = false := by simp [Builtin.List.listSameRef, hSi]
  unfold Builtin.List.listExtendWith
  refine wpAny_bind (wpAny_typeOf hT ?_)
  rw [if_neg (by rw [h1]; decide)]
  refine wpAny_bind (wpAny_pyIter_revIter hit ?_)
  refine wpAny_bind (wpAny_holding ?_)
  unfold Builtin.List.listLengthHint
  refine wpAny_bind (wpAny_specialOf hT nolen_lri ?_)
  show wpAny _ A.in1 (specialOf (Value.ref it) (Str.ofString "__length_hint__") >>= _) _ _ _
  refine wpAny_bind (wpAny_specialOf hT hint_lri ?_)
  generalize hid : ("list_reverseiterator.__length_hint__" : String) = id0
  wp_delta
  rw [show splitId id0 = some ("list_reverseiterator", "__length_hint__") from by subst hid; decide +kernel]
  subst hid
  refine wpAny_bind (wpAny_isInstance (b := true) hT (by rw [isSubtype_type]; kernel_rfl) ?_)
  refine wpAny_pure ?_
  rw [if_neg (by decide)]
  have e0 : ((items.size : Nat) : Int) - 1 - ((0 : Nat) : Int) = (items.size : Int) - 1 := by omega
  refine wpAny_pure ⟨plainId_quiet F.plain_extend_loop _, codeAny_extend_loopS W hn _ hSf _ items.size 0 _ _ _ rfl (Nat.zero_le _) ⟨Nat.zero_le _, by rw [e0]; exact hit, hl⟩ hS (ItemsOf.nil _) fun s' acc' c' hm hS' hacc => ?_⟩
  rw [Moved.eq_with hm]
  exact hR s'.heap s'.toks acc' c' (fun b o hb hb2 e => hm.heap b o (fun hmem => by
    rcases List.mem_cons.mp hmem with e' | hmem
    · exact hb2 e'
    · exact hb (List.mem_singleton.mp hmem)) e) hS' hacc
end
section
variable {X : Cx} {pins : List (Addr × Obj)} {σ : L2.St}
theorem call_list_rev {s : Shared} {it l : Addr} {items : Array Value} {Q : Value → Shared → Prop} {E : Value → Shared → Prop} (hh : X.A.handled = none) (hit : s.heap.IsRevIter it l ((items.size : Int) - 1)) (hl : s.heap.IsList l items) (hne : l ≠ it) (hn : items.size ≤ sizeLine)
    (hQ : ∀ (h' : Heap) (tk : Nat) (acc : Array Value) (c' : Nat), (∀ b o, b ≠ it → s.heap.get? b = some o → h'.get? b = some o) → h'.get? s.heap.objs.size = some { cls := .type "list", data := .seq acc c' } → ItemsOf (fun i v => items[items.size - 1 - i]? = some v) acc items.size → Q (.ref s.heap.objs.size) { s with heap := h', toks := tk }) :
    wpAny (model X.prog X.w) X.A (call (.type "list") [.ref it]) Q E s := by
  refine callType_codes (Q₁ := fun obj s₁ => obj = .ref s.heap.objs.size ∧ s₁ = { s with heap := s.heap.push { cls := .type "list", data := .seq #[] } }) F.called_list (F.typeCall_list_1 _) F.entry_list_init
    (code_list_new _ ⟨rfl, rfl⟩) fun obj s₁ h₁ => ?_
  obtain ⟨rfl, rfl⟩ := h₁
  have hS : (s.heap.push { cls := .type "list", data := .seq #[] }).get? s.heap.objs.size = some { cls := .type "list", data := .seq #[] } := Heap.get?_push_size _ rfl
  obtain ⟨oi, hoi, _⟩ := id hit
  obtain ⟨ol, hol, _⟩ := id hl
  have hSi : s.heap.objs.size ≠ it := Nat.ne_of_gt (Heap.lt_size hoi)
  have hSl : s.heap.objs.size ≠ l := Nat.ne_of_gt (Heap.lt_size hol)
  refine ⟨⟨_, hS, rfl⟩, F.args_list_init_2 _ _, ?_⟩
  show wpAny _ X.A.in1.in1 (do let old ← Builtin.List.listItems (.ref s.heap.objs.size); Builtin.List.listUpdate (.ref s.heap.objs.size) (fun _ => #[]); letGo old.toList.reverse; Builtin.List.listExtendWith (.ref s.heap.objs.size) (.ref it) .none) _ _ _
  refine wpAny_bind ?_
  unfold Builtin.List.listItems
  refine wpAny_bind (wpAny_seqItems hS rfl (wpAny_pure ?_))
  show wpAny _ X.A.in1.in1 (updateSeq s.heap.objs.size (fun _ => #[]) >>= fun _ => letGo (#[] : Array Value).toList.reverse >>= fun _ => Builtin.List.listExtendWith (.ref s.heap.objs.size) (.ref it) .none) _ _ _
  refine wpAny_bind (wpAny_updateSeq hS rfl ?_)
  have hS₂ := Heap.get?_update_self (Obj.mapSeq (fun _ => (#[] : Array Value))) hS rfl
  refine wpAny_bind (wpAny_letGo ?_)
  have oth : ∀ c o, s.heap.get? c = some o → ((s.heap.push { cls := .type "list", data := .seq #[] }).update s.heap.objs.size (Obj.mapSeq (fun _ => (#[] : Array Value)))).get? c = some o := fun c o e => by
    have hc : c ≠ s.heap.objs.size := Nat.ne_of_lt (Heap.lt_size e)
    exact (Heap.get?_update_other _ _ (Ne.symm hc)).trans (Heap.get?_push_of_some _ e)
  refine extend_rev (A := X.A.in1) hh (hit.at fun o e => oth _ o e) (hl.at fun o e => oth _ o e) hne hn hSi hSl hS₂ fun h' tk acc c' hk hS' hi => ⟨rfl, hQ h' tk acc c' (fun b o hb e => hk b o hb (Nat.ne_of_lt (Heap.lt_size e)) (oth b o e)) hS' hi⟩
/-- list(reversed(x)), x a list: a new list -/
def tLRev (K : PySem.W.Frag) (te : TE) : TE := fun σ H Q => te σ H fun v H1 => ∃ (a : Addr) (xs : List V), v = .ref a ∧ SqL K H1 a xs ∧ ∀ q, H1 q = none → Q (.ref q) (upd H1 q (.lst xs.reverse))
theorem pe_listRev {e : Expr} {te : TE} {p p2 pos pos2 : Pos} (hc : X.calm = true) (hg : Gl X "list") (hm : X.mg "list" = none) (hg2 : Gl X "reversed") (hm2 : X.mg "reversed" = none) (he : PE X e te)
    (hs : starEach [e] X.env = (false, eval e X.env) :: starEach [] X.env := by rfl)
    (hs2 : starEach [.Call (.Name "reversed" p2) [e] [] pos2] X.env = (false, eval (.Call (.Name "reversed" p2) [e] [] pos2) X.env) :: starEach [] X.env := by rfl) :
    PE X (.Call (.Name "list" p) [.Call (.Name "reversed" p2) [e] [] pos2] [] pos) (tLRev X.K te) := by
  refine ⟨fun pins s σ H Q I h => ?_⟩
  refine Call_ (ld_blt I hg hm boot_list (PyProof.Rows.callWith_type1 (args_cons (Call_ (ld_blt I hg2 hm2 PyProof.Rows.boot_reversed (PyProof.Rows.callWith_type1 (args_cons (thn (he.run pins s σ H _ I h) fun u s1 ⟨v, H1, I1, r1, q1⟩ => args_nil ?_) hs) hs rfl))) hs2) hs2 rfl))
  obtain ⟨a, xs, ev, hq, q⟩ := q1
  subst ev
  obtain rfl : u = Value.ref a := r1
  obtain ⟨its, rv, p', hz⟩ := I1.list hq
  refine call_reversed_list p'.isList (args_nil ?_)
  have k0 : ∀ b o, s1.heap.get? b = some o → (s1.heap.push (revObj a ((its.toArray.size : Int) - 1))).get? b = some o := fun b o e => Heap.get?_push_of_some _ e
  have I2 : Inv X pins σ H1 { s1 with heap := s1.heap.push (revObj a ((its.toArray.size : Int) - 1)) } := I1.kept (t' := s1.toks) k0
  have hf := I1.fpOk (H' := H1) (b := s1.heap.objs.size) (Nat.le_refl _) (I1.hok.fresh (Nat.le_refl _))
  have hl := p'.isList
  obtain ⟨ol, hol, _⟩ := id hl
  have hne : a ≠ s1.heap.objs.size := Nat.ne_of_lt (Heap.lt_size hol)
  have hn : its.toArray.size ≤ sizeLine := by rw [List.size_toArray, ← rv.length]; exact hz
  refine call_list_rev (s := { s1 with heap := s1.heap.push (revObj a ((its.toArray.size : Int) - 1)) }) (I1.ok.hd hc) ⟨_, Heap.get?_push_size _ rfl, rfl, rfl⟩ (hl.push _) hne hn fun h' tk acc c' hk hS' hi => ?_
  refine ⟨.ref _, upd H1 _ (.lst xs.reverse), I2.turnedNew (t' := tk) (ch := [s1.heap.objs.size]) (fun b o hb e => hk b o (fun z => hb (by simp [z])) e) (fun c hcm => by
    obtain rfl : c = s1.heap.objs.size := by simpa using hcm
    exact hf) (Nat.le_refl _) (show ObjOk X.prog X.w _ _ _ (.lst xs.reverse) from ⟨by rw [List.length_reverse]; exact hz, acc.toList, c', vals_rev rv hi, ?_⟩), rfl, q _ (I2.hok.fresh (Nat.le_refl _))⟩
  rw [Array.toArray_toList]
  exact hS'
end
section
variable {X : Cx} {fx : List Nat} {Wx : WX}
def gLrev : G1 := fun x P => match x with
  | .list xs => P (.own xs.reverse)
  | _ => False
theorem pv_lrev {e : Expr} {te : TeD} {p p2 pos pos2 : Pos} (hc : X.calm = true) (hg : Gl X "list") (hm : X.mg "list" = none) (hg2 : Gl X "reversed") (hm2 : X.mg "reversed" = none) (he : Pv X fx Wx e te)
    (hs : starEach [e] X.env = (false, eval e X.env) :: starEach [] X.env := by rfl)
    (hs2 : starEach [.Call (.Name "reversed" p2) [e] [] pos2] X.env = (false, eval (.Call (.Name "reversed" p2) [e] [] pos2) X.env) :: starEach [] X.env := by rfl) :
    Pv X fx Wx (.Call (.Name "list" p) [.Call (.Name "reversed" p2) [e] [] pos2] [] pos) (tOp1 gLrev te) := by
  refine PE.imp (pe_listRev hc hg hm hg2 hm2 he hs hs2) fun σ H Q h => ?_
  refine op1_imp (r := fun x H1 Q => ∃ a xs, x = .ref a ∧ SqL X.K H1 a xs ∧ ∀ p, H1 p = none → Q (.ref p) (upd H1 p (.lst xs.reverse))) (op := gLrev) (fun Hs H x dx P Q sm lx h k => ?_) σ H Q h
  unfold gLrev at h
  split at h
  · obtain ⟨p, vs, rfl, s1, d1⟩ := lx.lst sm
    exact ⟨p, vs, rfl, s1, fun z nz => k _ _ _ h (res_list nz (dpa_reverse d1))⟩
  · exact h.elim
end
/-! ### tuple(x) -/
def gTuple : GB := fun ds P => match ds with
  | [.list xs] => P (.val (.tuple xs))
  | [.tuple xs] => P (.val (.tuple xs))
  | _ => False
theorem sem_tuple {K : PySem.W.Frag} : SemB K (fun xs H Q => ∃ p ys, xs = [.ref p] ∧ ((SqL K H p ys ∧ ∀ l, H l = none → Q (.ref l) (upd H l (.tup ys))) ∨ (SqT K H p ys ∧ Q (.ref p) H))) gTuple := by
  intro Hs H xs ds P Q sm l h k
  unfold gTuple at h
  split at h
  · obtain ⟨v, rfl, lk⟩ := lk1 l
    obtain ⟨p, vs, rfl, s1, d1⟩ := lk.lst sm
    exact ⟨p, vs, rfl, .inl ⟨s1, fun z nz => k _ _ _ h (res_tup2 sm nz d1)⟩⟩
  · obtain ⟨v, rfl, lk⟩ := lk1 l
    have dp := lk
    obtain ⟨p, vs, rfl, s1, d1⟩ := lk.tup sm
    refine ⟨p, vs, rfl, .inr ⟨s1, k _ _ _ h (.pure sm ?_)⟩⟩
    rcases dp with z | ⟨_, _, _, _, z, _⟩
    · exact z
    · cases z
  · exact h.elim
/-! ### tuple + tuple -/
def gAddT : G2 := fun x y P => match x, y with
  | .tuple xs, .tuple ys => xs ≠ [] ∧ ys ≠ [] ∧ xs.length + ys.length ≤ 1000000 ∧ P (.val (.tuple (xs ++ ys)))
  | _, _ => False
theorem sem_addT {K : PySem.W.Frag} : Sem2 K (rCatT K) gAddT := by
  intro Hs H x y dx dy P Q sm lx ly h k
  unfold gAddT at h
  split at h
  · obtain ⟨p, vs, rfl, s1, d1⟩ := lx.tup sm
    obtain ⟨q, us, rfl, s2, d2⟩ := ly.tup sm
    have l1 := dpa_len d1
    have l2 := dpa_len d2
    obtain ⟨h1, h2, h3, h⟩ := h
    have n1 : vs ≠ [] := fun z => h1 (List.length_eq_zero_iff.mp (by rw [← l1, z]; rfl))
    have n2 : us ≠ [] := fun z => h2 (List.length_eq_zero_iff.mp (by rw [← l2, z]; rfl))
    exact ⟨p, q, vs, us, rfl, rfl, s1, s2, n1, by rw [l1, l2]; exact mill h3, fun z => absurd z n2, fun _ z nz => k _ _ _ h (res_tup2 sm nz (dpa_append d1 d2))⟩
  · exact h.elim
/-! ### range(i, j, c) -/
section
variable {X : Cx} {fx : List Nat} {Wx : WX}
def rng3D (lo c : Int) (n : Nat) : List D := (List.range n).map fun i => .int (lo + (i : Nat) * c)
theorem rng3_ok {lo c : Int} {n : Nat} : ItOk X.K fx [] (Itc lo c n) (rng3D lo c n) (fun _ => True) := by
  have hl : (rng3D lo c n).length = n := by simp [rng3D]
  refine ⟨fun _ _ _ _ _ _ _ _ => trivial, fun i g _ _ hi => by rw [hl] at hi; exact hi, fun i g _ _ hi => by rw [hl] at hi; exact hi, fun i g x H' d _ r y hd => ?_⟩
  obtain ⟨rfl, rfl⟩ := y
  have : i < n := by
    have := (List.getElem?_eq_some_iff.mp hd).1
    rw [hl] at this
    exact this
  have e : (rng3D lo c n)[i]? = some (.int (lo + (i : Nat) * c)) := by simp [rng3D, this]
  rw [e] at hd
  cases hd
  exact .pure r.same (.int _)
def tiR3 (ta : TaD) : TiD := fun ρ P PX => ta ρ (fun rs ρ1 => match rs with
  | [.val (.int i), .val (.int j), .val (.int c)] => ∃ n : Nat, RgC i j c n ∧ P (rng3D i c n) [] ρ1
  | _ => False) PX
theorem pvI_range3 {tg a b c : Expr} {ta : TaD} {p pos : Pos} (hg : Gl X "range") (hm : X.mg "range" = none) (ha : PvA X fx Wx [a, b, c] ta)
    (hs : starEach [a, b, c] X.env = (false, eval a X.env) :: starEach [b, c] X.env := by rfl) (hpl : (backTo pos (starEach [b, c] X.env)).any (·.1) = false := by rfl) : PvI X fx Wx tg (.Call (.Name "range" p) [a, b, c] [] pos) (tiR3 ta) := by
  refine PI.imp (pi_range3 hg hm ha hs hpl) fun σ H Q h => ?_
  obtain ⟨Hs, ρ, P, PX, hr, ht, hq, hx⟩ := h
  refine ⟨Hs, ρ, _, _, hr, ht, fun g1 vs rs h1 e1 rp p1 => ?_, hx⟩
  have ⟨i, j, c, n, q1, q2, q4⟩ : ∃ i j c n, allV rs = some [.int i, .int j, .int c] ∧ RgC i j c n ∧ P (rng3D i c n) [] g1.ρ := by
    split at p1
    · obtain ⟨n, a, b⟩ := p1
      exact ⟨_, _, _, n, rfl, a, b⟩
    · exact p1.elim
  match vs, rp.dpa q1 with
  | [_, _, _], .cons (.int _) (.cons (.int _) (.cons (.int _) .nil)) => exact ⟨i, j, c, n, rfl, q2, hq g1 _ _ [] (fun _ => True) h1 e1 rng3_ok trivial (fun q hq => by simp at hq) q4⟩
end
end RR

/-! LayU: a comprehension over a list that a slot keeps. -/
namespace RR
open PySem PySem.Spec L2
section
variable {X : Cx} {fx : List Nat} {Wx : WX} {e a b c : Expr} {es : List Expr} {pos : Pos} {st : Stmt} {sts : List Stmt}
theorem lc_impB {fxI fx' : List Nat} (hI : ∀ i ∈ fx, i ∈ fxI) {ti : TiD} {g : TgD} {tt : TtD} {te : TeD} {vs : List Nat} (hfx : ∀ i ∈ fx, i ∈ fx') (hvs : ∀ (n i : Nat), n = X.N.length → i < n → i ∈ vs ∨ i ∈ fx') (σ : L2.St) (hσ : σ.length = X.N.length) (H : Hp) (Q : VK)
    (h : liftE X fx Wx (tLcD ti g tt te vs) σ H Q) : tLc (liftI X fxI Wx ti) (liftG X fx' g) (liftT X fx W0 tt) (liftE X fx W0 te) vs σ H Q := by
  obtain ⟨Hs, ρ, P, PX, hr, ht, hq, hx⟩ := h
  refine ⟨Hs, ρ, _, _, hr, ht, fun g1 J items ss Ok r1 e1' it ok so p1 => ?_, fun g' cls d x r e => hx g' cls d x r (e.mono hI)⟩
  have e1 : GoE fx ⟨Hs, ρ, σ, H⟩ g1 := ⟨e1'.ext.mono hI, e1'.sg, e1'.kp⟩
  obtain ⟨Hs1, ρ1, σ1, H1⟩ := g1
  obtain rfl : σ1 = σ := e1.sg
  intro L nL
  have nL : H1 L = none := nL
  obtain ⟨g2, r2, e2, rp2, hh2, hρ2, e12⟩ := (show Res X.K Hs1 H1 (.ref L) (upd H1 L (.lst [])) (.own []) from ⟨L, [], rfl, nL, rfl, .nil⟩).go (fx := fx) (g0 := ⟨Hs1, ρ1, σ1, H1⟩) (g := ⟨Hs1, ρ1, σ1, H1⟩) .refl r1
  obtain ⟨p, vs0, ep, t1, t2, t3, t4, t5⟩ := rp2
  cases ep
  refine ⟨fun i m H' => m = items.length - i ∧ i ≤ items.length ∧ ∃ Hs' ρ' acc va, Rel X.K ⟨Hs', ρ', σ1, H'⟩ ∧ Ext fx ⟨Hs1, ρ1, σ1, H1⟩ ⟨Hs', ρ', σ1, H'⟩ ∧ (∀ (i : Nat) (w : W), ρ1[i]? = some (some w) → ∃ w', ρ'[i]? = some (some w')) ∧ H' L = some (.lst va) ∧ DpAll X.K Hs' va acc ∧ Hs' L = none ∧ ¬ OwnAt ρ' σ1 L ∧ srcOk ss ρ' ∧ lcD ss vs g tt te P (items.drop i) acc ρ',
    ⟨items.length, by simp, Nat.zero_le _, g2.Hs, g2.ρ, [], vs0, ?_⟩, ?_⟩
  · have hs2 := e2.sg
    obtain ⟨Hs2, ρ2, σ2, H2⟩ := g2
    obtain rfl : σ2 = σ1 := hs2
    obtain rfl : H2 = _ := hh2
    obtain rfl : ρ2 = ρ1 := hρ2
    exact ⟨r2, e2.ext, fun i w z => ⟨w, z⟩, t1, t2, t3, t4, so, p1⟩
  rintro i m H2 ⟨rfl, hi, Hs2, ρ2, acc, va, r2, e2, kp2, t1, t2, t3, t4, so2, lp⟩
  have ok2 := it.stay _ _ ok r1 r2 ⟨e2.same, e2.new, e2.frame, e2.dom, e2.own, fun _ _ => rfl, e2.len⟩ so so2
  by_cases hlt : i < items.length
  · refine .inr ⟨it.go i _ ok2 r2 hlt, fun H' => ∃ Hs' ρ' acc va, Rel X.K ⟨Hs', ρ', σ1, H'⟩ ∧ Ext fx ⟨Hs1, ρ1, σ1, H1⟩ ⟨Hs', ρ', σ1, H'⟩ ∧ (∀ (i : Nat) (w : W), ρ1[i]? = some (some w) → ∃ w', ρ'[i]? = some (some w')) ∧ H' L = some (.lst va) ∧ DpAll X.K Hs' va acc ∧ Hs' L = none ∧ ¬ OwnAt ρ' σ1 L ∧ srcOk ss ρ' ∧ lcD ss vs g tt te P (items.drop (i + 1)) acc ρ',
      fun H' h' => ⟨items.length - (i + 1), by omega, rfl, hlt, h'⟩, fun x H' y => ?_⟩
    have hd : items[i]? = some items[i] := List.getElem?_eq_getElem hlt
    obtain ⟨g3, r3, e3, rp3, hh3, hρ3, _⟩ := (it.yld i ⟨Hs2, ρ2, σ1, H2⟩ x H' _ ok2 r2 y hd).go (fx := fx) (g0 := ⟨Hs2, ρ2, σ1, H2⟩) .refl r2
    obtain ⟨Hs3, ρ3, σ3, H3⟩ := g3
    obtain rfl : H3 = H' := hh3
    obtain rfl : ρ3 = ρ2 := hρ3
    obtain rfl : σ3 = σ1 := e3.sg
    obtain ⟨t1, t2, t3, t4⟩ := tmp_keep e3.ext t1 t2 t3 t4
    rw [List.drop_eq_getElem_cons hlt] at lp
    obtain ⟨no, hacc, lp⟩ := lp
    refine ⟨Hs3, wipeD ρ3 vs, _, _, rel_wipe r3, rp3, lp, fun g4 r4 e4 k4 z4 => ?_⟩
    have hl4 : g4.σ.length = σ3.length := by
      have := e4.len
      simp only [wipe_length] at this
      exact this
    have w4 : wipe g4.σ vs = wipe σ3 vs := wipe_eq hl4 fun j n hj => by
      rcases hvs _ j rfl (by rw [← hσ]; exact hj) with q | q
      · exact absurd q n
      · have := e4.fix j q
        rw [this]
        exact wipe_get_out n
    refine ⟨w4, ?_⟩
    have e4' := e4.mono hfx
    have kpu : ∀ ρ' : Rho, Kp g4.ρ ρ' → ρ'.length = σ3.length → Kp ρ1 (unwipe ρ3 ρ' vs) := fun ρ' k hl j w z => by
      obtain ⟨w2, z2⟩ := kp2 j w z
      by_cases hj : j ∈ vs
      · exact unwipe_in hj z2 (by rw [hl, show σ3.length = ρ3.length from r3.len]; exact (List.getElem?_eq_some_iff.mp z2).1)
      · obtain ⟨w3, z3⟩ := (k4.trans k) j w2 ((wipeD_out hj).trans z2)
        exact ⟨w3, (unwipe_out hj).trans z3⟩
    refine ⟨g4.Hs, g4.ρ, _, _, r4, z4, fun g5 b5 r5 e5 p5 => ?_, fun _ _ _ _ _ _ _ z => z⟩
    have w5 : wipe g5.σ vs = wipe σ3 vs := by rw [e5.sg]; exact w4
    have e35 : Ext fx _ g5 := e4'.trans e5.ext
    cases b5 with
    | false =>
      obtain ⟨so5, lp5⟩ := (show srcOk ss (unwipe ρ3 g5.ρ vs) ∧ lcD ss vs g tt te P (items.drop (i + 1)) acc (unwipe ρ3 g5.ρ vs) from p5)
      have eu := ext_unwipe (g := ⟨Hs3, ρ3, σ3, H3⟩) e35 w5 no
      obtain ⟨t1, t2, t3, t4⟩ := tmp_keep eu t1 t2 t3 t4
      exact ⟨g5.Hs, unwipe ρ3 g5.ρ vs, acc, va, rel_unwipe (g := ⟨Hs3, ρ3, σ3, H3⟩) r3 r5 e35 w5 no, (e2.trans e3.ext).trans eu, kpu _ e5.kp (by rw [← r5.len, e5.sg]; exact hl4), t1, t2, t3, t4, so5, lp5⟩
    | true =>
      have s5 : g5.σ = g4.σ := e5.sg
      obtain ⟨Hs5, ρ5, σ5, H5⟩ := g5
      obtain rfl : σ5 = g4.σ := s5
      refine ⟨Hs5, ρ5, _, _, r5, p5, fun g6 v r r6 e6 rp6 p6 => ?_, fun _ _ _ _ _ _ _ z => z⟩
      obtain ⟨⟨d, ρ7⟩, q1, so7, lp7⟩ := onSome_ex p6
      obtain ⟨Hs7, r7, e7, dp7, kp7, _⟩ := freeze e6.ext r6 rp6 q1
      have w7 : wipe g6.σ vs = wipe σ3 vs := by rw [e6.sg]; exact w4
      have e37 := e35.trans e7
      have eu := ext_unwipe (g := ⟨Hs3, ρ3, σ3, H3⟩) (g' := ⟨Hs7, ρ7, g6.σ, g6.H⟩) e37 w7 no
      obtain ⟨t1, t2, t3, t4⟩ := tmp_keep eu t1 t2 t3 t4
      have ru := rel_unwipe (g := ⟨Hs3, ρ3, σ3, H3⟩) (g' := ⟨Hs7, ρ7, g6.σ, g6.H⟩) r3 r7 e37 w7 no
      have hla := dpa_len t2
      refine ⟨va, t1, by rw [hla]; exact Nat.lt_of_lt_of_le hacc (by decide), Hs7, unwipe ρ3 ρ7 vs, acc ++ [d], va ++ [v], rel_upd ru t3 t4 (fun fv z => nomatch z.symm.trans t1) (fun _ z => nomatch z.symm.trans t1), ext_upd ((e2.trans e3.ext).trans eu) nL, kpu _ ((show Kp g4.ρ ρ5 from e5.kp).trans (Kp.trans e6.kp kp7)) (by rw [← show g6.σ.length = ρ7.length from r7.len, e6.sg]; exact hl4), upd_same, dpa_append t2 (dpa_one dp7), t3, t4, so7, lp7⟩
  · have e : i = items.length := by omega
    subst e
    refine .inl ⟨it.stop _ _ ok2 r2 (Nat.le_refl _), ?_⟩
    rw [List.drop_length] at lp
    refine hq ⟨Hs2, ρ2, σ1, H2⟩ (.ref L) (.own acc) r2 ⟨e1.ext.trans e2, rfl, fun i w z => let ⟨w', z'⟩ := e1.kp i w z; kp2 i w' z'⟩ ⟨L, va, rfl, t1, t2, t3, t4, ?_⟩ lp
    left
    show H L = none
    cases q : H L with
    | none => rfl
    | some o =>
      obtain ⟨o', z⟩ := e1.ext.dom L o q
      have z : H1 L = some o' := z
      rw [nL] at z; cases z
theorem pv_lcB {fxI : List Nat} {elt tg iter : Expr} {ifs : List Expr} {scope : Scope} {own : List (Str × Nat)} {ti : TiD} {g : TgD} {tt : TtD} {te : TeD} (fx' : List Nat) (hc : X.calm = true) (hN : X.N.Nodup) (hi : PvI X fxI Wx tg iter ti) (ok : BlkOk X.N X.env.scope scope own)
    (hg : ∀ (s : Shared) (H : Hp) (C : Addr) (cl : List (Str × Addr)) (fp : List Addr), PvG (X.blk s H scope (compEnvC scope cl C X.env) fp) fx' tg g) (ht : ∀ (s : Shared) (H : Hp) (C : Addr) (cl : List (Str × Addr)) (fp : List Addr), PTs (X.blk s H scope (compEnvC scope cl C X.env) fp) ifs (liftT (X.blk s H scope (compEnvC scope cl C X.env) fp) fx W0 tt))
    (he : ∀ (s : Shared) (H : Hp) (C : Addr) (cl : List (Str × Addr)) (fp : List Addr), Pv (X.blk s H scope (compEnvC scope cl C X.env) fp) fx W0 elt te) (hs : ∀ x, foldedSetIterable iter X.env x = pure x := by intro _; rfl)
    (hfx : ∀ i ∈ fx, i ∈ fx' := by decide) (hI : ∀ i ∈ fx, i ∈ fxI := by decide) (hvs : ((List.range X.N.length).all fun i => (own.map (·.2)).contains i || fx'.contains i) = true := by rfl) : Pv X fx Wx (.ListComp elt [⟨tg, iter, ifs, 0⟩] scope pos) (tLcD ti g tt te (own.map (·.2))) :=
  PE.impL (pe_lc hc hN hi ok hg ht he hs) fun σ H Q hl h => lc_impB hI hfx (hvs_of hvs) σ hl H Q h
theorem pv_setLcB {fxI : List Nat} (i : Nat) {y : Str} {py spos : Pos} {elt tg iter : Expr} {ifs : List Expr} {scope : Scope} {own : List (Str × Nat)} {ti : TiD} {g : TgD} {tt : TtD} {te : TeD} (fx' : List Nat) (hc : X.calm = true) (hN : X.N.Nodup) (hy : X.N[i]? = some y) (hyl : X.env.scope.names.lookup y = some .local)
    (hsw : swapsWith (.ListComp elt [⟨tg, iter, ifs, 0⟩] scope pos) (some (.Name y py)) spos.line X.env = pure true) (hi : PvI X fxI Wx tg iter ti) (ok : BlkOk X.N X.env.scope scope own)
    (hg : ∀ (s : Shared) (H : Hp) (C : Addr) (cl : List (Str × Addr)) (fp : List Addr), PvG (X.blk s H scope (compEnvC scope cl C X.env) fp) fx' tg g) (ht : ∀ (s : Shared) (H : Hp) (C : Addr) (cl : List (Str × Addr)) (fp : List Addr), PTs (X.blk s H scope (compEnvC scope cl C X.env) fp) ifs (liftT (X.blk s H scope (compEnvC scope cl C X.env) fp) fx W0 tt))
    (he : ∀ (s : Shared) (H : Hp) (C : Addr) (cl : List (Str × Addr)) (fp : List Addr), Pv (X.blk s H scope (compEnvC scope cl C X.env) fp) fx W0 elt te) (hs : ∀ x, foldedSetIterable iter X.env x = pure x := by intro _; rfl)
    (hfi : i ∉ fx := by decide) (hfx : ∀ i ∈ fx, i ∈ fx' := by decide) (hI : ∀ i ∈ fx, i ∈ fxI := by decide) (hvs : ((List.range X.N.length).all fun i => (own.map (·.2)).contains i || fx'.contains i) = true := by rfl) : PvS X fx Wx (.Assign [.Name y py] (.ListComp elt [⟨tg, iter, ifs, 0⟩] scope pos) spos) (tSetD i (tLcD ti g tt te (own.map (·.2)))) :=
  PS.impL (ps_setLc hc hN hy hyl hsw hi ok hg ht he hs) fun D σ H hl h => lc_impB hI hfx (hvs_of hvs) σ hl H _ (set_imp hfi D σ H h)
end
end RR

/-! LayV: try .. except C as e; isinstance of the caught exception; defs called in the suite. -/
namespace RR
open PySem PySem.Spec PyProof.Rows L2 L2H

/-- which class is under which -/
def subC (x c : String) : Bool := x == c || c == "RayError" || c == "ValueError" || c == "Exception"
/-- the object p is the exception x, its dict at dd -/
def XIs (mg : Str → Option Value) (p : Addr × Obj) (dd : Addr) (x : Xc) : Prop := ∃ (cls : Value) (d : Option Addr), mg x.cls = some cls ∧ L2N.Zn cls d p.2 ∧ (∃ vs, p.2.data = .fields vs) ∧ ((x.fs = [] ∧ d = none) ∨ (x.fs ≠ [] ∧ d = some dd))
/-- .. and it is handled in X -/
def HX (X : Cx) (a dd : Addr) (x : Xc) : Prop := ∃ oe, (a, oe) ∈ X.pn ∧ X.A.handled = some (.ref a) ∧ XIs X.mg (a, oe) dd x
theorem XIs.hot1 {mg : Str → Option Value} {p : Addr × Obj} {dd : Addr} {x : Xc} {A : Around} (h : XIs mg p dd x) (k : A.handled = some (.ref p.1)) : Hot1 A p := by
  obtain ⟨cls, d, _, zn, ⟨vs, hv⟩, _⟩ := h
  exact ⟨k, vs, hv, zn.2.2 vs hv⟩
theorem HX.hot {X : Cx} {a dd : Addr} {x : Xc} (h : HX X a dd x) : HotC X := by
  obtain ⟨oe, h1, h2, h3⟩ := h
  exact ⟨(a, oe), h3.hot1 h2, h1⟩

/-! ### isinstance -/
section
variable {X : Cx}
def rIsX (K : PySem.W.Frag) (D a : Addr) (d : Option Addr) : List V → Hp → VK → Prop := fun xs H Q => ∃ (c : V) (cv : Value) (b : Bool), xs = [.ref a, c] ∧ (d = none ∨ ∃ dd fv, d = some dd ∧ H dd = some (.xd fv)) ∧ (∀ u, RelV c u → u = cv) ∧ PySem.W.kitOne K (.ref D) cv = some b ∧ Q (.bl b) H
theorem call_isX {a D : Addr} {oe : Obj} {d : Option Addr} (hp : (a, oe) ∈ X.pn) (zn : Zc (.ref D) d oe) (hf : ∃ vs, oe.data = .fields vs) (C : ExcC X.K D) : CallR X (.builtin "isinstance") (rIsX X.K D a d) := by
  intro pins s σ H xs us Q I r h
  obtain ⟨c, cv, b, rfl, hd, hcv, e, q⟩ := h
  match us, r with
  | [u1, u2], .cons r1 (.cons r2 .nil) =>
  cases (show u1 = Value.ref a from r1)
  obtain rfl := hcv u2 r2
  have hg := (I.pin (a, oe) (List.mem_append_left _ hp)).1
  obtain ⟨cd, hc, _⟩ := PySem.W.any_some C.hd
  have hcl : (PySem.W.clsIn X.K D).isSome = true := by rw [hc]; rfl
  obtain ⟨vs, hv⟩ := hf
  have no : PySem.W.notCls oe = true := by unfold PySem.W.notCls; rw [hv]
  have fin : ∀ od : Option Obj, PySem.W.InstAt s.heap a oe D od → wpAny (model X.prog X.w) X.A (call (.builtin "isinstance") [.ref a, u2]) (EP X pins σ Q) X.xe s := fun od J =>
    PySem.W.kia_one (PySem.W.kitx_exc (od := od) hcl C.hg C.hk C.hs C.ha C.hn C.ht C.hm) I.kIn J e (fun z => nomatch z) fun tk => ⟨.bl b, H, I.kept (t' := tk) fun _ _ z => z, rfl, q⟩
  rcases hd with rfl | ⟨dd, fv, rfl, hH⟩
  · exact fin none ⟨hg, zn.1, no, by rw [zn.2]; trivial⟩
  · obtain ⟨mA, hns, _⟩ := (show ObjOk X.prog X.w H s.heap dd (.xd fv) from I.hok dd _ hH)
    obtain ⟨od, ho, _⟩ := lookIn_ns hns
    exact fin (some od) ⟨hg, zn.1, no, by rw [zn.2]; exact ho⟩
end
/-- classes L against the class T of the text; against the built-in class T -/
def IsF (K : PySem.W.Frag) (mg : Str → Option Value) (L : List String) (T : String) : Prop := ∃ C, mg T = some (.ref C) ∧ ∀ n, L.contains n = true → ∃ D, mg n = some (.ref D) ∧ ExcC K D ∧ PySem.W.kitOne K (.ref D) (.ref C) = some (subC n T)
def IsB (K : PySem.W.Frag) (mg : Str → Option Value) (L : List String) (T : String) : Prop := mg T = none ∧ ∀ n, L.contains n = true → ∃ D, mg n = some (.ref D) ∧ ExcC K D ∧ PySem.W.kitOne K (.ref D) (.type T) = some (subC n T)
/-- isinstance(n, T), n the caught exception in slot i -/
def tIsE (a dd : Addr) (x : Xc) (L : List String) (i : Nat) (T : String) : TeD := fun ρ P _ => match ρ[i]? with
  | some (some (.exc a' dd' fs')) => (a' = a ∧ dd' = dd ∧ fs' = x.fs) ∧ L.contains x.cls = true ∧ P (.val (.bool (subC x.cls T))) ρ
  | _ => False
section
variable {X : Cx} {fx : List Nat} {Wx : WX} {pos : Pos}
theorem isE_imp {a dd D : Addr} {x : Xc} {L : List String} {i : Nat} {T : String} {c : V} {cv : Value} {d : Option Addr} (hcv : ∀ u, RelV c u → u = cv) (k : PySem.W.kitOne X.K (.ref D) cv = some (subC x.cls T)) (hd : (x.fs = [] ∧ d = none) ∨ (x.fs ≠ [] ∧ d = some dd))
    (σ : L2.St) (H : Hp) (Q : VK) (h : liftE X fx Wx (tIsE a dd x L i T) σ H Q) : ∃ v, σ[i]? = some (some v) ∧ rIsX X.K D a d [v, c] H Q := by
  obtain ⟨Hs, ρ, P, PX, hr, ht, hq, _⟩ := h
  unfold tIsE at ht
  split at ht
  case h_2 => exact ht.elim
  rename_i a' dd' fs' hi
  obtain ⟨⟨rfl, rfl, e⟩, _, ht⟩ := ht
  obtain ⟨h1, h2⟩ := hr.exc i _ _ _ hi
  refine ⟨_, h1, c, cv, _, rfl, ?_, hcv, k, hq ⟨Hs, ρ, σ, H⟩ _ (.val (.bool (subC x.cls T))) hr .refl (Dp.bl _) ht⟩
  rcases hd with ⟨_, z⟩ | ⟨n, z⟩
  · exact .inl z
  · rcases h2 with w | ⟨fv, w, _⟩
    · exact absurd (e ▸ w) n
    · exact .inr ⟨_, fv, z, w⟩
theorem isE_not {a dd : Addr} {x : Xc} {L : List String} {i : Nat} {T : String} {e : Expr} (hL : ¬ L.contains x.cls = true) : Pv X fx Wx e (tIsE a dd x L i T) := ⟨fun _ _ _ _ _ _ h => by
  obtain ⟨Hs, ρ, P, PX, hr, ht, _⟩ := h
  unfold tIsE at ht
  split at ht
  · exact absurd ht.2.1 hL
  · exact ht.elim⟩
theorem pv_isE {a dd : Addr} {x : Xc} {L : List String} {T : String} (i : Nat) {n y : Str} {p p1 p2 : Pos} (hx : HX X a dd x) (F : IsF X.K X.mg L T) (hg : Gl X y) (hm : X.mg y = none) (hv : bootBuiltins y = some (.builtin "isinstance")) (gT : Gl X T)
    (hN : X.N[i]? = some n := by rfl) (hvi : Vis X.env.scope n := by first | exact Or.inl rfl | exact Or.inr (Or.inl rfl) | exact Or.inr (Or.inr rfl)) (hd : (n == ("__debug__" : Str)) = false := by decide) (hcd : (n == ("__classdict__" : Str)) = false := by decide)
    (hn : y ≠ "__name__" := by decide) (hdb : (y == ("__debug__" : Str)) = false := by decide) (hdb2 : ((T : Str) == ("__debug__" : Str)) = false := by decide)
    (hs : starEach [.Name n p1, .Name T p2] X.env = (false, eval (.Name n p1) X.env) :: starEach [.Name T p2] X.env := by rfl) (hs2 : starEach [.Name T p2] X.env = (false, eval (.Name T p2) X.env) :: starEach [] X.env := by rfl) (hpl : (backTo pos (starEach [.Name T p2] X.env)).any (·.1) = false := by rfl) :
    Pv X fx Wx (.Call (.Name y p) [.Name n p1, .Name T p2] [] pos) (tIsE a dd x L i T) := by
  by_cases hL : L.contains x.cls = true
  case neg => exact isE_not hL
  obtain ⟨oe, hp, _, cls, d, hc, zn, hf, hdd⟩ := hx
  obtain ⟨C, mT, F⟩ := F
  obtain ⟨D, mD, eD, k⟩ := F _ hL
  rw [mD] at hc
  cases hc
  exact PE.imp (pe_callB (call_isX hp zn.zc hf eD) hg hm hv (pa_cons (pe_var hN hvi hd hcd) (pa_cons (pe_glob (v := .ref C) gT mT rfl hdb2) pa_nil hs2) hs) hn hdb hs hpl) (isE_imp (c := .ref C) (fun u r => r) k hdd)
theorem pv_isEB {a dd : Addr} {x : Xc} {L : List String} {T : String} (i : Nat) {n y : Str} {p p1 p2 : Pos} (hx : HX X a dd x) (F : IsB X.K X.mg L T) (hg : Gl X y) (hm : X.mg y = none) (hv : bootBuiltins y = some (.builtin "isinstance")) (gT : Gl X T) (vT : bootBuiltins T = some (.type T))
    (hN : X.N[i]? = some n := by rfl) (hvi : Vis X.env.scope n := by first | exact Or.inl rfl | exact Or.inr (Or.inl rfl) | exact Or.inr (Or.inr rfl)) (hd : (n == ("__debug__" : Str)) = false := by decide) (hcd : (n == ("__classdict__" : Str)) = false := by decide)
    (hn : y ≠ "__name__" := by decide) (hdb : (y == ("__debug__" : Str)) = false := by decide) (hn2 : (T : Str) ≠ "__name__" := by decide) (hdb2 : ((T : Str) == ("__debug__" : Str)) = false := by decide)
    (hs : starEach [.Name n p1, .Name T p2] X.env = (false, eval (.Name n p1) X.env) :: starEach [.Name T p2] X.env := by rfl) (hs2 : starEach [.Name T p2] X.env = (false, eval (.Name T p2) X.env) :: starEach [] X.env := by rfl) (hpl : (backTo pos (starEach [.Name T p2] X.env)).any (·.1) = false := by rfl) :
    Pv X fx Wx (.Call (.Name y p) [.Name n p1, .Name T p2] [] pos) (tIsE a dd x L i T) := by
  by_cases hL : L.contains x.cls = true
  case neg => exact isE_not hL
  obtain ⟨oe, hp, _, cls, d, hc, zn, hf, hdd⟩ := hx
  obtain ⟨mT, F⟩ := F
  obtain ⟨D, mD, eD, k⟩ := F _ hL
  rw [mD] at hc
  cases hc
  exact PE.imp (pe_callB (call_isX hp zn.zc hf eD) hg hm hv (pa_cons (pe_var hN hvi hd hcd) (pa_cons (pe_bltn (v := .ty T) gT mT vT rfl hn2 hdb2) pa_nil hs2) hs) hn hdb hs hpl) (isE_imp (c := .ty T) (fun u r => r) k hdd)
end

/-! ### slots that hold no list -/
section
variable {X : Cx} {fx : List Nat}
/-- it holds no list -/
abbrev NoL (w : Option W) : Prop := (∀ xs, w ≠ some (.own xs)) ∧ (∀ p its, w ≠ some (.nst p its)) ∧ ∀ r, w ≠ some (.reg r)
theorem own_set_no {ρ : Rho} {σ : L2.St} {i : Nat} {w : Option W} {v : Option V} {a : Addr} (hw : NoL w) (h : OwnAt (ρ.set i w) (σ.set i v) a) : OwnAt ρ σ a := by
  obtain ⟨j, xs, h⟩ := h
  rcases owns_set h with ⟨_, z⟩ | ⟨_, z⟩
  · exact (owns_val hw z).elim
  · exact ⟨j, xs, z⟩
theorem ext_set_no {g0 g : Gst} {i : Nat} {w : Option W} {v : Option V} (e : Ext fx g0 g) (hi : i ∉ fx) (hw : NoL w) : Ext fx g0 ⟨g.Hs, g.ρ.set i w, g.σ.set i v, g.H⟩ :=
  ⟨e.same, e.new, e.frame, e.dom, fun a h => e.own a (own_set_no hw h), fun j hj => (List.getElem?_set_ne (fun z => hi (by rw [z]; exact hj))).trans (e.fix j hj), (List.length_set ..).trans e.len⟩
theorem rel_set_no {g : Gst} {i : Nat} {w : Option W} {v : Option V} (h : Rel X.K g) (hw : NoL w) (hv : ∀ d, w ≠ some (.val d)) (hx : ∀ a dd fs, w = some (.exc a dd fs) → v = some (.ref a) ∧ XF X.K g.Hs g.H dd fs) : Rel X.K ⟨g.Hs, g.ρ.set i w, g.σ.set i v, g.H⟩ := by
  refine ⟨by simpa using h.len, h.same, fun j d hd => ?_, fun j xs hj => ?_, fun j k p xs ys h1 h2 => ?_, fun j p its hj => ?_, fun j a dd fs hj => ?_, fun j r hj => ?_⟩
  · rcases get_set hd with ⟨rfl, z⟩ | ⟨ne, z⟩
    · exact absurd z.symm (hv d)
    · obtain ⟨v', a, b⟩ := h.val j d z
      exact ⟨v', (List.getElem?_set_ne ne).trans a, b⟩
  · rcases get_set hj with ⟨rfl, z⟩ | ⟨ne, z⟩
    · exact absurd z.symm (hw.1 xs)
    · obtain ⟨p, vs, a, b⟩ := h.own j xs z
      exact ⟨p, vs, (List.getElem?_set_ne ne).trans a, b⟩
  · rcases owns_set h1 with ⟨_, z⟩ | ⟨_, z⟩
    · exact (owns_val hw z).elim
    · rcases owns_set h2 with ⟨_, z'⟩ | ⟨_, z'⟩
      · exact (owns_val hw z').elim
      · exact h.sepO j k p xs ys z z'
  · rcases get_set hj with ⟨rfl, z⟩ | ⟨ne, z⟩
    · exact absurd z.symm (hw.2.1 p its)
    · obtain ⟨q1, q2⟩ := h.nst j p its z
      exact ⟨(List.getElem?_set_ne ne).trans q1, q2⟩
  · rcases get_set hj with ⟨rfl, z⟩ | ⟨ne, z⟩
    · obtain ⟨q1, q2⟩ := hx a dd fs z.symm
      have hl : i < g.σ.length := by
        rw [h.len]
        simpa using (List.getElem?_eq_some_iff.mp hj).1
      exact ⟨by rw [List.getElem?_set_self hl, q1], q2⟩
    · obtain ⟨q1, q2⟩ := h.exc j a dd fs z
      exact ⟨(List.getElem?_set_ne ne).trans q1, q2⟩
  · rcases get_set hj with ⟨rfl, z⟩ | ⟨ne, z⟩
    · exact absurd z.symm (hw.2.2 r)
    · obtain ⟨v', q1, q2⟩ := h.reg j r z
      exact ⟨v', (List.getElem?_set_ne ne).trans q1, q2⟩
end

theorem liftS_cx {X X' : Cx} {fx : List Nat} {W : WX} {t : TsD} {D : Ends} {σ : L2.St} {H : Hp} (eK : X.K = X'.K) (eM : X.mg = X'.mg) (h : liftS X fx W t D σ H) : liftS X' fx W t D σ H := by
  obtain ⟨Hs, ρ, DD, hr, ht, hq⟩ := h
  refine ⟨Hs, ρ, DD, eK ▸ hr, ht, ?_⟩
  obtain ⟨a, b, c, d, e⟩ := hq
  unfold XOk at e
  rw [eK] at a b c d
  rw [eK, eM] at e
  exact ⟨a, b, c, d, e⟩
/-! ### try .. except C as n -/
def tTryD (i : Nat) (L : List String) (tb : TsD) (ts : Addr → Addr → Xc → TsD) : TsD := fun DD ρ =>
  tb { DD with ex := fun x ρ1 => L.contains x.cls = true ∧ ∀ a dd, ts a dd x { nx := fun ρ2 => DD.nx (ρ2.set i none), rt := DD.rt, bk := fun ρ2 => DD.bk (ρ2.set i none), ct := fun ρ2 => DD.ct (ρ2.set i none), ex := noX } (ρ1.set i (some (.exc a dd x.fs))) } ρ
def CatchF (K : PySem.W.Frag) (mg : Str → Option Value) (L : List String) (c : Value) : Prop := ∀ n, L.contains n = true → ∃ D, mg n = some (.ref D) ∧ PySem.W.exmOne K (.ref D) c = some true
theorem pv_try_as {X : Cx} {fx : List Nat} {Wx : WX} {L : List String} {tb : TsD} {ts : Addr → Addr → Xc → TsD} {C : String} {n : Str} {c : Value} (i : Nat) {body suite : List Stmt} {b₀ : Stmt} {np pos pos' : Pos} (hN : X.N.Nodup) (hi : X.N[i]? = some n) (hm : X.mg C = some c) (gC : Gl X C) (hL : CatchF X.K X.mg L c) (tk : L2N.Takes X Wx)
    (hb : ∀ (W : WX) (pn : List (Addr × Obj)) (xe : Value → Shared → Prop), L2N.Takes (X.tr pn xe) W → PassesOwn (model X.prog X.w) X.A X.env xe → PvB (X.tr pn xe) fx W body tb)
    (hsu : ∀ (a dd : Addr) (x : Xc) (oe : Obj) (pn : List (Addr × Obj)), L.contains x.cls = true → HX (X.suite a ((a, oe) :: pn)) a dd x → PvB (X.suite a ((a, oe) :: pn)) fx W0 (b₀ :: suite) (ts a dd x))
    (hs : X.stack = X.env :: X.outer := by rfl) (hf : X.env.frame = some X.env.locals := by rfl) (hln : X.env.kindOf n = some .local := by rfl) (hdb : ((C : Str) == ("__debug__" : Str)) = false := by decide) (hfx : i ∉ fx := by decide) :
    PvS X fx Wx (.Try body [.ExceptHandler (some (.Name C np)) (some n) (b₀ :: suite) pos'] [] [] pos) (tTryD i L tb ts) := by
  refine PS.imp (L2N.ps_try_as (tb := fun W => liftS X fx W tb) (ts := fun a cls d D σ H => ∃ (dd : Addr) (x : Xc), L.contains x.cls = true ∧ X.mg x.cls = some cls ∧ ((x.fs = [] ∧ d = none) ∨ (x.fs ≠ [] ∧ d = some dd)) ∧ liftS X fx W0 (ts a dd x) D σ H)
    hs hf hN hi hln ⟨gC, hdb, .inl hm⟩ tk (fun W pn xe tk' po => ⟨fun pins s σ H D I h => (hb W pn xe tk' po).run pins s σ H D I (liftS_cx (X := X) rfl rfl h)⟩) (fun a oe cls d pn zn hf => ⟨fun pins s σ H D I h => ?_⟩)) fun D σ H h => ?_
  · obtain ⟨dd, x, h1, h2, h3, h4⟩ := h
    exact (hsu a dd x oe pn h1 ⟨oe, List.mem_cons_self, rfl, cls, d, h2, zn, hf, h3⟩).run pins s σ H D I (liftS_cx (X := X) rfl rfl h4)
  · obtain ⟨Hs, ρ, DD, hr, ht, hq⟩ := h
    refine ⟨Hs, ρ, _, hr, ht, hq.nx, hq.rt, hq.bk, hq.ct, fun g cls d x r e xr px => ?_⟩
    obtain ⟨hc, px⟩ := px
    obtain ⟨D', m, em⟩ := hL _ hc
    obtain ⟨x1, x2⟩ := xr
    have ec : cls = .ref D' := Option.some.inj (x1.symm.trans m)
    subst ec
    refine ⟨true, em, fun _ a na => ?_, fun z => nomatch z⟩
    have go : ∀ dd, ((x.fs = [] ∧ d = none) ∨ (x.fs ≠ [] ∧ d = some dd)) → XF X.K g.Hs g.H dd x.fs → ∃ (dd : Addr) (x : Xc), L.contains x.cls = true ∧ X.mg x.cls = some (.ref D') ∧ ((x.fs = [] ∧ d = none) ∨ (x.fs ≠ [] ∧ d = some dd)) ∧
        liftS X fx W0 (ts a dd x) { nx := fun σ' H' => D.nx (σ'.set i none) H', rt := D.rt, bk := fun σ' H' => D.bk (σ'.set i none) H', ct := fun σ' H' => D.ct (σ'.set i none) H' } (g.σ.set i (some (.ref a))) g.H := fun dd h1 h2 => by
      have e2 : Ext fx ⟨Hs, ρ, σ, H⟩ ⟨g.Hs, g.ρ.set i (some (.exc a dd x.fs)), g.σ.set i (some (.ref a)), g.H⟩ := ext_set_no e hfx ⟨fun xs z => (nomatch z), fun _ _ z => (nomatch z), fun _ z => (nomatch z)⟩
      have r2 : Rel X.K ⟨g.Hs, g.ρ.set i (some (.exc a dd x.fs)), g.σ.set i (some (.ref a)), g.H⟩ := rel_set_no r ⟨fun xs z => (nomatch z), fun _ _ z => (nomatch z), fun _ z => (nomatch z)⟩ (fun d z => nomatch z) fun a' dd' fs' z => by
        cases z
        exact ⟨rfl, h2⟩
      have no : NoL (none : Option W) := ⟨fun xs z => (nomatch z), fun _ _ z => (nomatch z), fun _ z => (nomatch z)⟩
      have back : ∀ g' : Gst, Rel X.K g' → Rel X.K ⟨g'.Hs, g'.ρ.set i none, g'.σ.set i none, g'.H⟩ := fun g' r' => rel_set_no r' no (fun d z => nomatch z) fun _ _ _ z => nomatch z
      refine ⟨dd, x, hc, x1, h1, g.Hs, g.ρ.set i (some (.exc a dd x.fs)), _, r2, px a dd, ?_⟩
      have q2 := hq.go e2
      exact ⟨fun g' r' e' z => q2.nx _ (back g' r') (ext_set_no e' hfx no) z, q2.rt, fun g' r' e' z => q2.bk _ (back g' r') (ext_set_no e' hfx no) z, fun g' r' e' z => q2.ct _ (back g' r') (ext_set_no e' hfx no) z, fun _ _ _ _ _ _ _ z => z.elim⟩
    rcases x2 with ⟨z1, z2⟩ | ⟨dd, fv, z0, z1, z2, z3, z4⟩
    · exact go a (.inl ⟨z1, z2⟩) (.inl z1)
    · exact go dd (.inr ⟨z0, z1⟩) (.inr ⟨fv, z2, z3, z4⟩)
end RR

/-! LayW: defs called in an except suite, who are told of the caught exception. -/
namespace RR
open PySem PySem.Spec PyProof.Rows L2 L2H

/-- what a def promises where the exception p is handled -/
structure FnP (P : Program) (w : World) (K : PySem.W.Frag) (mg : Str → Option Value) (base : Heap) (CX : CXT) (k : Nat) (f : Addr) (fd : FuncData) (ps : List Str) (sp : Addr × Obj → Sp) : Prop where
  len : ∀ p vs H Q E, sp p vs H Q E → vs.length = ps.length
  go : ∀ (p : Addr × Obj) (A : Around) (outer : List Env) (s : Shared) (H : Hp) (args : Args) (us : List Value) (vs : List V) (Q : VK) (E : XK), sp p vs H Q E → Hot1 A p → RoomH k A → Env0 P w K mg base A outer s H → PinOk outer H s p → Vals vs us → BindsTo s fd args (ps.zip us) →
    codeAny (model P w) A (.call (.ref f) args) (CR CX outer P w H s Q E) s
theorem FnP.mono {P : Program} {w : World} {K : PySem.W.Frag} {mg : Str → Option Value} {base : Heap} {CX : CXT} {j k : Nat} {f : Addr} {fd : FuncData} {ps : List Str} {sp : Addr × Obj → Sp} (F : FnP P w K mg base CX j f fd ps sp) (h : j ≤ k) : FnP P w K mg base CX k f fd ps sp :=
  ⟨F.len, fun p A outer s H args us vs Q E h1 h2 h3 => F.go p A outer s H args us vs Q E h1 h2 (h3.mono h)⟩
theorem fnP_of {P : Program} {w : World} {K : PySem.W.Frag} {mg : Str → Option Value} {base : Heap} {CX : CXT} {x qual : Str} {st : Stmt} {f : Addr} {fd : FuncData} {N ps : List Str} {k : Nat} {sp : Addr × Obj → Sp} (F : Fun K x qual st f fd) (S : FnScope N ps (defScope st)) (len : ∀ p vs H Q E, sp p vs H Q E → vs.length = ps.length)
    (walk : ∀ (p : Addr × Obj) (cdv : Value) (A : Around) (outer : List Env) (s : Shared) (H : Hp) (vs : List V) (Q : VK) (E : XK), sp p vs H Q E → Hot1 A p → RoomH k (A.deeper (envOfC qual (defScope st) s.heap.objs.size f cdv)) →
      ∃ t, t { nx := fun _ H' => Q .non H', rt := Q } (L2.start N vs) H ∧ PSs (cxH CX P w K mg base N qual (defScope st) f cdv A outer s H E p) (defBody st) t) : FnP P w K mg base CX (k + 1) f fd ps sp := by
  obtain ⟨oc, od, kV, doc, pm, an, cdv, ct, osl, rfl, lk, hcd⟩ := F.ex
  refine ⟨len, fun p A outer s H args us vs Q E hsp hot hr e0 hpin r hb => ?_⟩
  have stays {b : Addr} {o : Obj} (e : base.get? b = some o) := (e0.bs b o e).1
  have kin : K.In s.heap := e0.mod.kin.keeps fun _ _ => stays
  have names : ∀ y ∈ ps.zip us, (defScope st).names.lookup y.1 = some .local ∨ ((defScope st).names.lookup y.1 = some .cell ∧ ((cellsFrom (s.heap.objs.size + 1) (defScope st).names []).lookup y.1).isSome = true) := by
    rintro ⟨n, v⟩ hy
    exact (S.par n (List.of_mem_zip hy).1).imp id fun q => ⟨q, PySem.W.cellsFrom_some _ _ _ (.inl q)⟩
  refine codeAny_call_function hr.depth (kin _ _ lk) rfl S.co S.gen rfl (PySem.W.codeRec_of kin hcd) (hb _ _ _ _ (wpAny_newFunctionEnv_cells S.kind names ?_))
  rintro _ rfl s1 x
  obtain ⟨t, hq, ht⟩ := walk p cdv A outer s H vs Q E hsp hot (hr.deeper _)
  refine ⟨(e0.mod.nolimit.keeps fun _ _ => stays).keeps x.toInCall.keep, codeAny_func (wpAny_mono (ht.run [] s1 (L2.start N vs) H _ (inv_startH S hpin e0 (len _ _ _ _ _ hsp) r x) hq) (fun fl s' hs => ?_) fun _ _ z => z)⟩
  cases fl with
  | ret u => obtain ⟨v, σ', H', J, rv, q⟩ := hs; exact ⟨v, H', J.os, J.bare, J.base, J.hok, rv, q⟩
  | next => obtain ⟨σ', H', J, q⟩ := hs; exact ⟨V.non, H', J.os, J.bare, J.base, J.hok, rfl, q⟩
  | brk => obtain ⟨_, _, _, q⟩ := hs; exact q.elim
  | cont => obtain ⟨_, _, _, q⟩ := hs; exact q.elim
theorem pe_callP {X : Cx} {CX : CXT} {k : Nat} {f : Addr} {fd : FuncData} {ps : List Str} {sp : Addr × Obj → Sp} {E : L2.St → XK} {x : Str} {q pos : Pos} {e : Expr} {es : List Expr} {t : TA} {p : Addr × Obj} (F : FnP X.prog X.w X.K X.mg X.base CX k f fd ps sp) (hr : RoomH k X.A) (hot : Hot1 X.A p) (hp : p ∈ X.pn) (hg : Gl X x) (hm : X.mg x = some (.ref f)) (hk : PySem.W.keepIn X.K (.ref f) = true)
    (hb : Binds X.K fd ps []) (hx : ∀ σ, PassesAt CX X σ (E σ)) (ha : PA X (e :: es) t) (hdb : (x == ("__debug__" : Str)) = false := by decide) (he : starEach (e :: es) X.env = (false, eval e X.env) :: starEach es X.env := by rfl) (hpl : (backTo pos (starEach es X.env)).any (·.1) = false := by rfl) :
    PE X (.Call (.Name x q) (e :: es) [] pos) (tCallS (sp p) E t) := by
  refine ⟨fun pins s σ H Q I h => wpAny_Call_Name_kw (ld_glob I hg hm (PySem.W.callWith_K (h₀ := X.base) I.ok.mod.kin hk (thn (ha.run pos pins s σ H _ I h) ?_) he hpl) hdb)⟩
  rintro us s1 ⟨vs, H1, I1, r, h1⟩
  refine ⟨I1.kIn, wpAny_call (codeAny_mono (F.go p X.A X.stack s1 H1 ⟨us, []⟩ us vs Q (E σ) h1 hot hr I1.env0 ?_ r ?_) fun r s' hq => ?_)⟩
  · obtain ⟨a, b, c, d, e⟩ := I1.pin p (List.mem_append_left _ hp)
    exact ⟨a, b, fun hm => (List.mem_cons.mp (I1.stkSub p.1 hm)).elim c d, e⟩
  · have := hb s1 us I1.kIn (by rw [List.append_nil, ← r.length]; exact F.len _ _ _ _ _ h1)
    rwa [List.append_nil] at this
  · cases r with
    | error e => exact hx σ pins H1 s1 e s' I1 hq
    | ok fl => cases fl with
      | ret u => exact I1.after hq
      | next => exact hq.elim
      | brk => exact hq.elim
      | cont => exact hq.elim

/-! ### over data -/
def lowerP (K : PySem.W.Frag) (mg : Str → Option Value) (fx : List Nat) (sp : Addr → Addr → Xc → SpD) (dd : Addr) (x : Xc) (p : Addr × Obj) : Sp := fun vs H Q E => XIs mg p dd x ∧ lower K mg fx (sp p.1 dd x) vs H Q E
theorem fn_okP {P : Program} {w : World} {K : PySem.W.Frag} {mg : Str → Option Value} {base : Heap} {x qual : Str} {st : Stmt} {f : Addr} {fd : FuncData} {N ps : List Str} {k : Nat} {sp : Addr → Addr → Xc → SpD} {t : Addr → Addr → Xc → TsD} {fx : List Nat} {dd : Addr} {y : Xc} (F : Fun K x qual st f fd) (S : FnScope N ps (defScope st))
    (len : ∀ a dd y ws Q E, sp a dd y ws Q E → ws.length = ps.length)
    (hb : ∀ (a : Addr) (oe : Obj) (cdv : Value) (A : Around) (outer : List Env) (s : Shared) (H : Hp) (E : XK), RoomH k (A.deeper (PyProof.Rows.envOfC qual (defScope st) s.heap.objs.size f cdv)) → HX (cxH (L2N.CX P w) P w K mg base N qual (defScope st) f cdv A outer s H E (a, oe)) a dd y →
      PvB (cxH (L2N.CX P w) P w K mg base N qual (defScope st) f cdv A outer s H E (a, oe)) fx (fun cls d _ H => E cls d H) (defBody st) (t a dd y))
    (hvc : ∀ a dd y ws Q E, sp a dd y ws Q E → t a dd y (endsOf fx ws Q E) (startD N ws)) : FnP P w K mg base (L2N.CX P w) (k + 1) f fd ps (lowerP K mg fx sp dd y) := by
  refine fnP_of F S (fun p vs H Q E h => ?_) fun p cdv A outer s H vs Q E h hot hr => ?_
  · obtain ⟨_, Hs, ws, P', PX, h1, _, h2, _⟩ := h
    have := len _ _ _ _ _ _ h2
    have h3 := h1.len
    simp only [List.length_map] at h3
    omega
  · obtain ⟨a, oe⟩ := p
    obtain ⟨xi, Hs, ws, P', PX, h1, hfx, h2, hq, hx⟩ := h
    exact ⟨_, ⟨Hs, startD N ws, endsOf fx ws P' PX, rel_start h1, hvc _ _ _ _ _ _ h2, fn_end rfl rfl h1 hfx hq hx⟩, hb a oe cdv A outer s H E hr ⟨oe, List.mem_cons_self, hot.1, xi⟩⟩
section
variable (P : Program) (w : World) (K : PySem.W.Frag) (mg : Str → Option Value) (base : Heap)
/-- a def that keeps a promise where an exception is handled -/
def CalP (k : Nat) (x : Str) (ps : List Str) (fx : List Nat) (sp : Addr → Addr → Xc → SpD) : Prop := ∃ f fd, (∀ dd y, FnP P w K mg base (L2N.CX P w) k f fd ps (lowerP K mg fx sp dd y)) ∧ mg x = some (.ref f) ∧ PySem.W.keepIn K (.ref f) = true ∧ Binds K fd ps []
end
section
variable {P : Program} {w : World} {K : PySem.W.Frag} {mg : Str → Option Value} {base : Heap}
theorem calP_of {x : Str} {st : Stmt} {N ps : List Str} {k : Nat} {sp : Addr → Addr → Xc → SpD} {t : Addr → Addr → Xc → TsD} {fx : List Nat} (d : Dfn K mg x st ps) (S : FnScope N ps (defScope st)) (len : ∀ a dd y ws Q E, sp a dd y ws Q E → ws.length = ps.length)
    (hb : ∀ (f a dd : Addr) (y : Xc) (oe : Obj) (cdv : Value) (A : Around) (outer : List Env) (s : Shared) (H : Hp) (E : XK), RoomH k (A.deeper (PyProof.Rows.envOfC x (defScope st) s.heap.objs.size f cdv)) → HX (cxH (L2N.CX P w) P w K mg base N x (defScope st) f cdv A outer s H E (a, oe)) a dd y →
      PvB (cxH (L2N.CX P w) P w K mg base N x (defScope st) f cdv A outer s H E (a, oe)) fx (fun cls d _ H => E cls d H) (defBody st) (t a dd y))
    (hvc : ∀ a dd y ws Q E, sp a dd y ws Q E → t a dd y (endsOf fx ws Q E) (startD N ws)) : CalP P w K mg base (k + 1) x ps fx sp := by
  obtain ⟨f, fd, F, hm, hbd⟩ := d
  exact ⟨f, fd, fun dd y => fn_okP F S len (fun a oe cdv A outer s H E hr hx => hb f a dd y oe cdv A outer s H E hr hx) hvc, hm, F.kp, hbd⟩
end
section
variable {X : Cx} {fx : List Nat} {Wx : WX} {e : Expr} {es : List Expr} {pos : Pos}
theorem pv_callPC {j k : Nat} {ps : List Str} {sp : Addr → Addr → Xc → SpD} {x : Str} {p : Pos} {t : TaD} {fxf : List Nat} {a dd : Addr} {y : Xc} (C : CalP X.prog X.w X.K X.mg X.base j x ps fxf sp) (hj : j ≤ k) (hr : RoomH k X.A) (hx : HX X a dd y) (hg : Gl X x)
    (tk : L2N.Takes X Wx) (ha : PvA X fx Wx (e :: es) t) (hdb : (x == ("__debug__" : Str)) = false := by decide)
    (he : starEach (e :: es) X.env = (false, eval e X.env) :: starEach es X.env := by rfl) (hpl : (backTo pos (starEach es X.env)).any (·.1) = false := by rfl) : Pv X fx Wx (.Call (.Name x p) (e :: es) [] pos) (tCallD fxf (sp a dd y) t) := by
  obtain ⟨f, fd, F, hm, hk, hb⟩ := C
  obtain ⟨oe, h1, h2, h3⟩ := hx
  refine PE.imp (pe_callP (p := (a, oe)) ((F dd y).mono hj) hr (h3.hot1 h2) h1 hg hm hk hb (fun σ => L2N.passAt tk σ) ha hdb he hpl) fun σ H Q h => ?_
  have := call_imp σ H Q h
  unfold tCallS liftA at this ⊢
  obtain ⟨Hs, ρ, P, PX, z1, z2, z3, z4⟩ := this
  exact ⟨Hs, ρ, P, PX, z1, z2, fun g' vs rs r' e' rp p' => ⟨h3, z3 g' vs rs r' e' rp p'⟩, z4⟩
theorem roomM {k : Nat} {A : Around} {h : Option Value} (r : Room k A) : RoomH k (A.mark h) := ⟨r.dp, r.un⟩
theorem unitsH {k : Nat} {A : Around} (r : RoomH k A) : A.units + 64 < cLine := by have := r.un; omega
theorem room65H {k : Nat} {A : Around} (r : RoomH k A) : A.units + 65 < cLine := by have := r.un; omega
end
end RR

/-! LayX: a list comprehension over a range in an except suite. -/
namespace RR
open PySem PySem.Spec PyProof.Rows L2 L2H

/-- the comprehension's own block, which knows what X knows of the caught exception -/
abbrev blkH (X : Cx) (s : Shared) (H : Hp) (scope : Scope) (cenv : Env) (fp : List Addr) : Cx := (X.blk s H scope cenv fp).tr X.pn fun _ _ => False
section
variable {X : Cx}
theorem blkH_start {pins : List (Addr × Obj)} {σ : L2.St} {H : Hp} {s : Shared} {scope : Scope} {own : List (Str × Nat)} {fp : List Addr} (I : Inv X pins σ H s) (ok : BlkOk X.N X.env.scope scope own) (hN : X.N.Nodup) (hfp : ∀ b ∈ fp, FpOk X pins H b ∧ b < s.heap.objs.size) :
    Inv (blkH X s H scope (compEnvC scope (cellsFrom (s.heap.objs.size + 1) scope.names (cloFrom X.env.cells scope.names [])) s.heap.objs.size X.env) fp) [] (wipe σ (own.map (·.2))) H { s with heap := pushCells (s.heap.push { cls := .type "dict", data := .dict #[] }) scope.names } := by
  have J := (block_start I ok hN hfp).pins_of (pins' := X.pn) fun p hp => by
    obtain ⟨a, b, c, d, e⟩ := I.pin p (List.mem_append_left _ hp)
    exact ⟨pushCells_keeps _ _ _ _ (Heap.get?_push_of_some _ a), b, Nat.ne_of_lt (Heap.lt_size a), fun hm => (List.mem_cons.mp (I.stkSub p.1 hm)).elim c d, e⟩
  exact J.toTry fun _ _ => False
/-- what is known of the iterator's objects, in the block -/
theorem blkH_stat {s s' : Shared} {H H' : Hp} {scope : Scope} {ce : Env} {fp : List Addr} {pins0 : List (Addr × Obj)} {σ' : L2.St} (I : Inv (blkH X s H scope ce fp) [] σ' H' s') (f0 : ∀ b ∈ fp, FpOk X pins0 H b) (hn : ∀ b ∈ fp, H' b = none) : ∀ b ∈ fp, FpOk (blkH X s H scope ce fp) [] H' b := fun b hb =>
  ⟨hn b hb, (I.ok.exf b hb).1, I.ok.exfs b hb, .inl hb, (I.ok.exf b hb).2, fun p hp => (f0 b hb).2.2.2.2.2 p (List.mem_append_left _ (by simpa using hp))⟩
theorem pe_lcH {elt tg iter : Expr} {ifs : List Expr} {scope : Scope} {own : List (Str × Nat)} {pos : Pos} {wi : TI} {g : TG} {tt : TT} {te : TE} (hot : HotC X) (hN : X.N.Nodup) (hi : PIH X tg iter wi) (ok : BlkOk X.N X.env.scope scope own)
    (hg : ∀ (s : Shared) (H : Hp) (C : Addr) (cl : List (Str × Addr)) (fp : List Addr), PG (blkH X s H scope (compEnvC scope cl C X.env) fp) tg g) (ht : ∀ (s : Shared) (H : Hp) (C : Addr) (cl : List (Str × Addr)) (fp : List Addr), PTs (blkH X s H scope (compEnvC scope cl C X.env) fp) ifs tt)
    (he : ∀ (s : Shared) (H : Hp) (C : Addr) (cl : List (Str × Addr)) (fp : List Addr), PE (blkH X s H scope (compEnvC scope cl C X.env) fp) elt te) (hs : ∀ x, foldedSetIterable iter X.env x = pure x := by intro _; rfl) :
    PE X (.ListComp elt [⟨tg, iter, ifs, 0⟩] scope pos) (tLc wi g tt te (own.map (·.2))) := by
  refine ⟨fun pins s σ H Q I h => ?_⟩
  rw [eval_ListComp]
  have free : ∀ y ∈ scope.names, y.2 = .free → ∃ c, X.env.cells.lookup y.1 = some c := fun y hy e => I.ok.has _ (ok.free y hy e)
  refine wpAny_comprehension_free rfl hs (closure_ok free) ok.kind (fun y hy e => (ok.uniq y hy).trans (by rw [e])) (thn (hi.run pins s σ H _ I h) fun _ _ hx => thn hx ?_)
  rintro _ s2 ⟨it, fp, tn, J, H2, rfl, I2, T, st2, f2, q⟩
  refine wpAny_newObj_type (newEnv_comp ?_) (by show 0 ≤ sizeLine; decide)
  -- the list that is made, at D
  obtain ⟨D, eD⟩ : ∃ D, D = s2.heap.objs.size := ⟨_, rfl⟩
  rw [← eD]
  have hDn : H2 D = none := I2.hok.fresh (Nat.le_of_eq eD.symm)
  obtain ⟨W, ⟨m0, w0⟩, turn⟩ := q D hDn
  obtain ⟨s3, e3⟩ : ∃ s3 : Shared, s3 = { s2 with heap := s2.heap.push { cls := .type "list", data := .seq ([] : List Value).toArray } } := ⟨_, rfl⟩
  obtain ⟨H3, eH⟩ : ∃ H3, H3 = upd H2 D (.lst []) := ⟨_, rfl⟩
  rw [← eH] at w0
  have grow : ∀ b o, s2.heap.get? b = some o → s3.heap.get? b = some o := fun b o e => by rw [e3]; exact Heap.get?_push_of_some _ e
  have I3 : Inv X pins σ H3 s3 := by
    rw [e3, eH]
    exact I2.laid (t' := s2.toks) (fun b o e => Heap.get?_push_of_some _ e) (Nat.le_of_eq eD.symm) ⟨Nat.zero_le _, [], 0, .nil, by rw [eD]; exact Heap.get?_push_size _ rfl⟩
  have f3 : ∀ b ∈ fp, FpOk X pins H3 b ∧ b < s3.heap.objs.size := fun b hb => by
    obtain ⟨o, e, _⟩ := T.obj _ _ st2 b hb
    refine ⟨⟨?_, (f2 b hb).2⟩, Heap.lt_size (grow b o e)⟩
    rw [eH, upd_ne (by rw [eD]; exact Nat.ne_of_lt (Heap.lt_size e))]
    exact (f2 b hb).1
  have st3 : tn 0 s3.heap := T.keep _ _ _ st2 fun b _ o e => grow b o e
  rw [← e3]
  -- the block
  obtain ⟨C, eC⟩ : ∃ C, C = s3.heap.objs.size := ⟨_, rfl⟩
  have I4 := blkH_start I3 ok hN f3
  rw [← eC] at I4 ⊢
  obtain ⟨cl, ecl⟩ : ∃ cl, cl = cellsFrom (C + 1) scope.names (cloFrom X.env.cells scope.names []) := ⟨_, rfl⟩
  show codeAny _ _ (.compStart (.ListComp elt [⟨tg, iter, ifs, 0⟩] scope pos) 0 (.ref it) (.ref D) (compEnvC scope (cellsFrom (C + 1) scope.names (cloFrom X.env.cells scope.names [])) C X.env)) _ { s3 with heap := pushCells (s3.heap.push { cls := .type "dict", data := .dict #[] }) scope.names }
  rw [← ecl] at I4 ⊢
  have pg := hg s3 H3 C cl fp
  have pt := ht s3 H3 C cl fp
  have pe := he s3 H3 C cl fp
  have cL : (compEnvC scope cl C X.env).locals = C := rfl
  generalize compEnvC scope cl C X.env = ce at I4 pg pt pe cL ⊢
  have hotB : HotC (blkH X s3 H3 scope ce fp) := hot
  obtain ⟨s4, e4⟩ : ∃ s4 : Shared, s4 = { s3 with heap := pushCells (s3.heap.push { cls := .type "dict", data := .dict #[] }) scope.names } := ⟨_, rfl⟩
  have st4 : tn 0 s4.heap := T.keep _ _ _ st3 fun b _ o e => by rw [e4]; exact pushCells_keeps _ _ _ _ (Heap.get?_push_of_some _ e)
  rw [← e4] at I4 ⊢
  have stat : ∀ {σ' : L2.St} {H' : Hp} {s' : Shared}, Inv (blkH X s3 H3 scope ce fp) [] σ' H' s' → (∀ b ∈ fp, H' b = none) → ∀ b ∈ fp, FpOk (blkH X s3 H3 scope ce fp) [] H' b := fun I' n' => blkH_stat I' (fun b hb => (f3 b hb).1) n'
  have loop := compLoop_any (prog := X.prog) (w := X.w) (A := X.A) (elt := elt) (target := tg) (iter := iter) (ifs := ifs) (scope := scope) (pos := pos) (it := .ref it) (acc := .ref D) (env := ce) (R := compPost (model X.prog X.w) X.A X.xe none (EP X pins σ Q) (.ref D) C)
    (fun n s' => ∃ i H', Inv (blkH X s3 H3 scope ce fp) [] (wipe σ (own.map (·.2))) H' s' ∧ tn i s'.heap ∧ (∀ b ∈ fp, H' b = none) ∧ W i n H') ?turn m0 ⟨0, H3, I4, st4, fun b hb => (f3 b hb).1.1, w0⟩
  · exact codeAny_compStart_list loop (T.self X.A 0 _ _ _ st4 loop)
  rintro n s5 ⟨i, H5, I5, st5, n5, w5⟩
  rcases turn i n H5 w5 with ⟨stop, qq⟩ | ⟨go, Nx, hNx, step⟩
  · refine thnF (T.done (blkH X s3 H3 scope ce fp) rfl rfl rfl hotB i [] s5 _ H5 (fun _ _ => False) I5 (stat I5 n5) st5 stop) ?_
    rintro _ s6 ⟨rfl, I6⟩
    have I7 : Inv X pins σ H5 s6 := I3.call' (ch := fp) I6.os I6.base I6.hok I6.bare fun b hb => by
      obtain ⟨_, y1, y2, y3, y4, y5⟩ := (f3 b hb).1
      exact ⟨y3, y1, y4, y5⟩
    have nC : H5 C = none := cL ▸ I6.free
    obtain ⟨m, hm, _⟩ := I6.loc
    refine ⟨m, cL ▸ hm, fun h'' sb => ?_⟩
    obtain ⟨k0, k1, k2, k3, k4, k5⟩ := I3.fpOk (H' := H5) (b := C) (Nat.le_of_eq eC.symm) nC
    exact ⟨.ref D, H5, I7.turned (t' := s6.toks) (fun b o hb e => (sb.2 b hb).trans e) k0 k1 k3 k4 k5, rfl, qq⟩
  · refine thnF (T.item (blkH X s3 H3 scope ce fp) rfl rfl rfl hotB i [] s5 _ H5 (fun _ _ => False) I5 (stat I5 n5) st5 go) ?_
    rintro _ s6 ⟨u, rfl, h6⟩
    refine thnF h6 ?_
    rintro _ s7 ⟨x, H7, I7, r7, y7, st7, n7⟩
    refine thnF (pg.run _ s7 _ H7 x u _ (I7.pinned (stat I7 n7) (T.obj _ _ st7)) r7 (step x H7 y7)) ?_
    rintro _ s8 ⟨σ8, H8, I8, hw8, q8⟩
    refine thnF (pt.run _ s8 σ8 H8 _ I8 q8) ?_
    rintro b s9 ⟨H9, I9, q9⟩
    have fin : ∀ {s' : Shared} {H' : Hp}, Inv (blkH X s3 H3 scope ce fp) ([] ++ pinsAt fp s7.heap) σ8 H' s' → Nx H' → ∃ m, m < n ∧ ∃ i H', Inv (blkH X s3 H3 scope ce fp) [] (wipe σ (own.map (·.2))) H' s' ∧ tn i s'.heap ∧ (∀ b ∈ fp, H' b = none) ∧ W i m H' := by
      intro s' H' I' nx
      obtain ⟨m', hm, w'⟩ := hNx H' nx
      have there : ∀ b ∈ fp, ∀ o, s7.heap.get? b = some o → s'.heap.get? b = some o ∧ H' b = none := fun b hb o e =>
        (I'.pin (b, o) (List.mem_append_right _ (List.mem_append_right _ (mem_pinsAt hb e)))).imp id And.left
      refine ⟨m', hm, i + 1, H', I'.unpinned.weak (by rw [← hw8, wipe_length]) fun j v e => (wipe_some (by rw [hw8]; exact e)).1, T.keep _ _ _ st7 fun b hb o e => (there b hb o e).1, fun b hb => ?_, w'⟩
      obtain ⟨o, e, _⟩ := T.obj _ _ st7 b hb
      exact (there b hb o e).2
    match b, q9 with
    | false, q9 => exact fin I9 q9
    | true, q9 =>
      refine thnF (pe.run _ s9 σ8 H9 _ I9 q9) ?_
      rintro z s10 ⟨yv, H10, I10, r10, acc, hD10, hz10, nx⟩
      exact app_ok (X := blkH X s3 H3 scope ce fp) I10 hD10 hz10 r10 fun s11 I11 => fin I11 nx
end
section
variable {X : Cx} {fx : List Nat} {Wx : WX} {a : Expr} {pos : Pos}
abbrev PvIH (X : Cx) (fx : List Nat) (Wx : WX) (tg iter : Expr) (t : TiD) : Prop := PIH X tg iter (liftI X fx Wx t)
theorem PIH.imp {tg iter : Expr} {t t' : TI} (h : PIH X tg iter t) (i : ∀ σ H Q, t' σ H Q → t σ H Q) : PIH X tg iter t' := ⟨fun pins s σ H R I q => h.run pins s σ H R I (i σ H R q)⟩
theorem pvI_range1H {tg : Expr} {ta : TaD} {p : Pos} (hg : Gl X "range") (hm : X.mg "range" = none) (ha : PvA X fx Wx [a] ta) (hs : starEach [a] X.env = [(false, eval a X.env)] := by rfl) : PvIH X fx Wx tg (.Call (.Name "range" p) [a] [] pos) (tiR1 ta) := by
  refine PIH.imp (pi_range1H hg hm ha hs) fun σ H Q h => ?_
  obtain ⟨Hs, ρ, P, PX, hr, ht, hq, hx⟩ := h
  refine ⟨Hs, ρ, _, _, hr, ht, fun g1 vs rs h1 e1 rp p1 => ?_, hx⟩
  have ⟨j, q1, q2, q3, q4⟩ : ∃ j, allV rs = some [.int j] ∧ j < 2 ^ 62 ∧ -(2 ^ 62) ≤ j ∧ P (rngD 0 j.toNat) [] g1.ρ := by
    split at p1
    · exact ⟨_, rfl, by omega, by omega, p1.2⟩
    · exact p1.elim
  match vs, rp.dpa q1 with
  | [_], .cons (.int _) .nil => exact ⟨j, rfl, q3, q2, hq g1 _ _ [] (fun _ => True) h1 e1 rng_ok trivial (fun q hq => by simp at hq) q4⟩
theorem pv_lcH {elt tg iter : Expr} {ifs : List Expr} {scope : Scope} {own : List (Str × Nat)} {ti : TiD} {g : TgD} {tt : TtD} {te : TeD} (fx' : List Nat) {e dd : Addr} {y : Xc} (hx : HX X e dd y) (hN : X.N.Nodup) (hi : PvIH X fx Wx tg iter ti) (ok : BlkOk X.N X.env.scope scope own)
    (hg : ∀ (s : Shared) (H : Hp) (C : Addr) (cl : List (Str × Addr)) (fp : List Addr), PvG (blkH X s H scope (compEnvC scope cl C X.env) fp) fx' tg g) (ht : ∀ (s : Shared) (H : Hp) (C : Addr) (cl : List (Str × Addr)) (fp : List Addr), PTs (blkH X s H scope (compEnvC scope cl C X.env) fp) ifs (liftT (blkH X s H scope (compEnvC scope cl C X.env) fp) fx W0 tt))
    (he : ∀ (s : Shared) (H : Hp) (C : Addr) (cl : List (Str × Addr)) (fp : List Addr), Pv (blkH X s H scope (compEnvC scope cl C X.env) fp) fx W0 elt te) (hs : ∀ x, foldedSetIterable iter X.env x = pure x := by intro _; rfl)
    (hfx : ∀ i ∈ fx, i ∈ fx' := by decide) (hvs : ((List.range X.N.length).all fun i => (own.map (·.2)).contains i || fx'.contains i) = true := by rfl) : Pv X fx Wx (.ListComp elt [⟨tg, iter, ifs, 0⟩] scope pos) (tLcD ti g tt te (own.map (·.2))) :=
  PE.impL (pe_lcH hx.hot hN hi ok hg ht he hs) fun σ H Q hl h => lc_imp hfx (hvs_of hvs) σ hl H Q h
end
end RR

/-! LayY: xs.count(x) of any data. -/
namespace RR
open PySem PySem.Spec PyProof.Rows L2 L2H
def rCountD (K : PySem.W.Frag) : V → List V → Hp → VK → Prop := fun x xs H Q => ∃ (a : Addr) (y : V) (d : PyData) (ds : List PyData), x = .ref a ∧ xs = [y] ∧ Dp K H (.ref a) (.list ds) ∧ Dp K H y d ∧ SeqAt.shaped (.list ds) = true ∧ SeqAt.shaped d = true ∧ Q (.int (ds.countP fun z => PyData.eqv z d : Nat)) H
theorem mt_countD {X : Cx} (hu : X.A.units + 65 < cLine) : MtR X "list.count" (rCountD X.K) := by
  intro pins s σ H x xs v us Q I rx rxs h
  obtain ⟨a, y, d, ds, rfl, rfl, hl, hy, sl, sd, q⟩ := h
  cases rx
  obtain ⟨u, rfl, ru⟩ := rxs.one
  obtain ⟨bs, r1⟩ := Dp.reads I d y u hy ru
  have pd : d.plain = true := PyData.plain_of_canLay0 d (SeqAt.canLay_of_shaped sd)
  have pl : PyData.plainAll ds = true := PyData.plain_of_canLay0 (.list ds) (SeqAt.canLay_of_shaped sl)
  cases hl with
  | lst hs ha =>
    obtain ⟨its, rv, hil, hlen⟩ := I.list hs
    obtain ⟨as, h4⟩ := Dp.readsAll I ds _ its ha rv
    exact SeqAt.count_list_data hil.isList (show ReadsAll s.heap its.toArray.toList ds as from h4) r1 pl pd (room_in_shaped sd hu) ⟨.int _, H, I.tok _, ⟨_, rfl⟩, q⟩
def qCountD : GQ := fun xs ds P => ∃ d, ds = [d] ∧ SeqAt.shaped (.list xs) = true ∧ SeqAt.shaped d = true ∧ P (.val (.int (xs.countP fun z => PyData.eqv z d : Nat)))
theorem semQ_countD {K : PySem.W.Frag} : SemQ K (rCountD K) qCountD := by
  intro Hs H x us xs ds P Q sm lx lu h k
  obtain ⟨d, rfl, s1, s2, h6⟩ := h
  obtain ⟨u, rfl, lv⟩ := lk1 lu
  have dp := lx.dp sm
  obtain ⟨p, vs, rfl, _⟩ := lx.lst sm
  exact ⟨p, u, d, xs, rfl, rfl, dp, lv.dp sm, s1, s2, k _ _ _ h6 (res_int sm)⟩
end RR
namespace RR
open PySem PySem.Spec PyProof.Rows L2 L2H
/-! ### facts of classes -/
def AllL (p : String → Prop) : List String → Prop
  | [] => True
  | n :: l => p n ∧ AllL p l
theorem allL_of {p : String → Prop} : ∀ {L : List String}, AllL p L → ∀ n, L.contains n = true → p n
  | [], _, n, h => by simp at h
  | m :: l, ⟨h1, h2⟩, n, h => by
    rw [List.contains_cons, Bool.or_eq_true] at h
    rcases h with h | h
    · rw [eq_of_beq h]; exact h1
    · exact allL_of h2 n h
theorem kit_own {K : PySem.W.Frag} {D C : Addr} {b : Bool} (h : PySem.W.subIn K (.ref D) (.ref C) = some b) (hs : PySem.W.subIn K (.ref D) (.ref D) = some true) (hd : PySem.W.hasDictIn K C = true) (ht : PySem.W.typeIn K (.ref C) = some (.type "type")) : PySem.W.kitOne K (.ref D) (.ref C) = some b := by
  unfold PySem.W.kitOne
  by_cases e : D = C
  · subst e
    rw [if_pos (beq_self_eq_true _)]
    exact hs.symm.trans h
  · rw [if_neg (by simpa using e)]
    obtain ⟨cd, hc, _⟩ := PySem.W.any_some hd
    have e2 : ((PySem.W.clsIn K C).isSome && PySem.W.typeIn K (.ref C) == some (.type "type")) = true := by rw [hc, ht] <;> rfl
    show (if ((PySem.W.clsIn K C).isSome && PySem.W.typeIn K (.ref C) == some (.type "type")) = true then PySem.W.subIn K (.ref D) (.ref C) else none) = some b
    rw [if_pos e2]
    exact h
theorem kit_blt {K : PySem.W.Frag} {D : Addr} {T : String} {b : Bool} (h : PySem.W.subIn K (.ref D) (.type T) = some b) (m : PySem.W.kitMeta T = true) : PySem.W.kitOne K (.ref D) (.type T) = some b := by
  unfold PySem.W.kitOne
  rw [if_neg (by intro z; cases eq_of_beq z)]
  show (if PySem.W.kitMeta T = true then PySem.W.subIn K (.ref D) (.type T) else none) = some b
  rw [if_pos m]
  exact h
def Catches (K : PySem.W.Frag) (mg : Str → Option Value) (L : List String) (C : String) : Prop := ∃ c, mg C = some c ∧ CatchF K mg L c
theorem pv_try_asC {X : Cx} {fx : List Nat} {Wx : WX} {L : List String} {tb : TsD} {ts : Addr → Addr → Xc → TsD} {C : String} {n : Str} (i : Nat) {body suite : List Stmt} {b₀ : Stmt} {np pos pos' : Pos} (hN : X.N.Nodup) (hi : X.N[i]? = some n) (hC : Catches X.K X.mg L C) (gC : Gl X C) (tk : L2N.Takes X Wx)
    (hb : ∀ (W : WX) (pn : List (Addr × Obj)) (xe : Value → Shared → Prop), L2N.Takes (X.tr pn xe) W → PassesOwn (model X.prog X.w) X.A X.env xe → PvB (X.tr pn xe) fx W body tb)
    (hsu : ∀ (a dd : Addr) (x : Xc) (oe : Obj) (pn : List (Addr × Obj)), L.contains x.cls = true → HX (X.suite a ((a, oe) :: pn)) a dd x → PvB (X.suite a ((a, oe) :: pn)) fx W0 (b₀ :: suite) (ts a dd x))
    (hs : X.stack = X.env :: X.outer := by rfl) (hf : X.env.frame = some X.env.locals := by rfl) (hln : X.env.kindOf n = some .local := by rfl) (hdb : ((C : Str) == ("__debug__" : Str)) = false := by decide) (hfx : i ∉ fx := by decide) :
    PvS X fx Wx (.Try body [.ExceptHandler (some (.Name C np)) (some n) (b₀ :: suite) pos'] [] [] pos) (tTryD i L tb ts) := by
  obtain ⟨c, hm, hL⟩ := hC
  exact pv_try_as i hN hi hm gC hL tk hb hsu hs hf hln hdb hfx
end RR

/-! LayZ: exceptions of a class of the text with an __init__ that keeps two things; the fields of the caught exception. -/
namespace RR
open PySem PySem.Spec PyProof.Rows L2 ClX
section
variable {X : Cx} {e o : Expr} {es : List Expr} {ta : TA} {p p1 p2 pos : Pos}
theorem pmk_oexN {CX : CXT} {x : Str} {C fI : Addr} {k : Nat} {fd : FuncData} {ps : List Str} {sp : Sp} {ds : List Value} {dvs : List V} (T : OexC X.K C) (iC : PySem.W.findIn X.K (.ref C) "__init__" = some (some (.ref fI))) (tI : PySem.W.typeIn X.K (.ref fI) = some (.type "function"))
    (F1 : FnOk X.prog X.w X.K X.mg X.base CX k fI fd ps sp) (hr : Room (k + 1) X.A) (hb : Binds X.K fd ps ds) (hd : Vals dvs ds) (hx : Passes CX X (fun _ _ _ => False)) (hg : Gl X x) (hm : X.mg x = some (.ref C)) (ha : PA X (e :: es) ta)
    (hdb : (x == ("__debug__" : Str)) = false := by decide) (he : starEach (e :: es) X.env = (false, eval e X.env) :: starEach es X.env := by rfl) (hpl : (backTo pos (starEach es X.env)).any (·.1) = false := by rfl) :
    L2N.PMk X (.Call (.Name x p) (e :: es) [] pos) (tMkO C sp dvs ta) := by
  intro pins s σ H Q I h
  obtain ⟨nm, q, N, bs, bm, sn, sub, ab, col, dd, k0, k1, k2, k3, k5, hC, hbm⟩ := T.cls
  refine wpAny_Call_Name_kw (ld_glob I hg hm ?_ hdb)
  refine PySem.W.callWith_K (h₀ := X.base) I.ok.mod.kin T.kC (thn (ha.run pos pins s σ H _ I h) fun us s1 ⟨vs, H1, I1, r1, hz, q1⟩ => ⟨I1.kIn, ?_⟩) he hpl
  show wpAny _ _ (call (.ref C) us) _ _ _
  obtain ⟨hp, g, dr, tk, os⟩ := s1
  have hsz : hp.objs.size ≤ hp.objs.size + 1 := Nat.le_succ _
  have hn : H1 (hp.objs.size + 1) = none := I1.hok.fresh hsz
  have hq := q1 (hp.objs.size + 1) hn
  have kk : ∀ b o, hp.get? b = some o → ((hp.push (PySem.W.kdv_tup us)).push (PySem.HandSPX.excO C hp.objs.size)).get? b = some o := fun b o e => Heap.get?_push_of_some _ (Heap.get?_push_of_some _ e)
  have hget : ((hp.push (PySem.W.kdv_tup us)).push (PySem.HandSPX.excO C hp.objs.size)).get? (hp.objs.size + 1) = some (PySem.HandSPX.excO C hp.objs.size) := by heap_get
  have I2 : Inv X pins σ (upd H1 (hp.objs.size + 1) (exo (hp.objs.size + 1) C none)) ⟨(hp.push (PySem.W.kdv_tup us)).push (PySem.HandSPX.excO C hp.objs.size), g, dr, tk, os⟩ :=
    I1.laid (t' := tk) (a := hp.objs.size + 1) (o := exo (hp.objs.size + 1) C none) (h' := (hp.push (PySem.W.kdv_tup us)).push (PySem.HandSPX.excO C hp.objs.size)) kk hsz (exo_ok hget)
  have r2 : Vals (V.ref (hp.objs.size + 1) :: (vs ++ dvs)) (Value.ref (hp.objs.size + 1) :: (us ++ ds)) := .cons rfl (r1.append hd)
  have hl : (Value.ref (hp.objs.size + 1) :: us ++ ds).length = ps.length := by
    have e := r2.length
    rw [F1.len _ _ _ _ hq] at e
    exact e.symm
  have hus : us.length ≤ sizeLine := by
    rw [← Paired.length r1, sizeLine_eq]
    omega
  refine wpAny_call (PySem.HandSPX.call_own PySem.F.excBase_ValueError (fun Y => PySem.HandSPX.refsVE_contains Y bm hbm) (I1.kIn _ _ hC) (PySem.W.looks_findIn I1.kIn iC) (fun self => PySem.W.bind_fn I1.kIn self tI) hus
    (codeAny_mono (F1.run _ X.stack _ _ ⟨Value.ref (hp.objs.size + 1) :: us, []⟩ (Value.ref (hp.objs.size + 1) :: (us ++ ds)) _ _ (fun _ _ _ => False) (hr.make C us []) (I2.env0.make C us []) (hb _ (Value.ref (hp.objs.size + 1) :: us) I2.kIn hl) r2 hq) fun r s' hq' => ?_))
  cases r with
  | error er => exact hx pins σ _ _ er s' I2 hq'
  | ok fl =>
    cases fl with
    | ret u =>
      obtain ⟨v, H2, os2, bare2, un2, hok2, rv, ev, d, fs, ea, ed, hd1, q2⟩ := hq'
      subst ev
      obtain ⟨h2, g2, d2, t2, os'⟩ := s'
      obtain ⟨t0, G, J, kG, ge, hoe, na⟩ := mk_end0 (d2 := d2) (t2 := t2) I1 hsz kk un2 hok2 os2 bare2 ea ed hd1
      refine ⟨rv, hp.objs.size + 1, _, _, ⟨G, g2, d2, t2, os'⟩, _, .ref C, some d, rfl, J, kG, ge, hoe, ⟨rfl, rfl, fun vs hv => ?_⟩, rfl, rfl, na, rfl, bare2, raises_own T.exC T.tyC, q2⟩
      cases hv
      rfl
    | next => exact False.elim hq'
    | brk => exact False.elim hq'
    | cont => exact False.elim hq'
/-- B.__init__(self, ..), B a class of the text over ValueError that has none -/
theorem pe_clsinit {B : Addr} {b : Str} {pl : Sem Bool} (hg : Gl X b) (hm : X.mg b = some (.ref B)) (rd : CRead X.K B (.type "type")) (vV : PySem.W.findCls X.K (.ref B) (.type "type") "__init__" = some (.val (.builtin "ValueError.__init__"))) (ha : PA X (e :: es) ta)
    (hdb : (b == ("__debug__" : Str)) = false := by decide)
    (hc : eval (.Call (.Attribute (.Name b p1) "__init__" p2) (e :: es) [] pos) X.env = (do
      let ov ← eval (.Name b p1) X.env
      standAt p2.atName
      let (f, first) ← holding [ov] (getMethod ov "__init__" pl)
      callWith pos f first (backTo pos (starEach (e :: es) X.env)) (backToKw pos (keywordEach [] X.env))) := by rfl)
    (he : starEach (e :: es) X.env = (false, eval e X.env) :: starEach es X.env := by rfl) (hpl : (backTo pos (starEach es X.env)).any (·.1) = false := by rfl) :
    PE X (.Call (.Attribute (.Name b p1) "__init__" p2) (e :: es) [] pos) (tVeI X.K ta) := by
  refine ⟨fun pins s σ H Q I h => ?_⟩
  refine PySem.W.methodCall_KW (ld_glob I hg hm ?_ hdb) hc
  refine PySem.W.method_cls I.kIn rd.ga (PySem.W.cls_value I.kIn rd.rd vV (by decide +kernel) ?_)
  show wpAny _ _ (callWith pos (Value.builtin "ValueError.__init__") [] (backTo pos (starEach (e :: es) X.env)) []) _ _ _
  refine PyProof.Rows.callWith_method1 (thn (ha.run pos pins _ σ H _ (I.tok _) h) fun us s1 ⟨vs, H1, I1, r1, a, C, ws, ev, hl, T, ea, q⟩ => ?_) he hpl
  subst ev
  cases r1 with
  | @cons _ u0 _ ur ra rw' =>
    obtain rfl : u0 = Value.ref a := ra
    have hlen : ur.length ≤ sizeLine := by
      rw [← Paired.length rw', sizeLine_eq]
      omega
    exact oinit_ok T I1 ea hlen fun s' J => ⟨.non, H1, J, rfl, q⟩
end
/-- what is had of the class x: its __init__ is the def st, over the class b, and keeps f2, then f3 -/
def XInit (P : Program) (w : World) (K : PySem.W.Frag) (mg : Str → Option Value) (base : Heap) (x : Str) (f2 f3 : Str) (k : Nat) : Prop := ∃ C fI fd, mg x = some (.ref C) ∧ OexC K C ∧ PySem.W.findIn K (.ref C) "__init__" = some (some (.ref fI)) ∧ PySem.W.typeIn K (.ref fI) = some (.type "function") ∧ Binds K fd ["self", "words", f2, f3] [] ∧
  FnOk P w K mg base (L2N.CX P w) k fI fd ["self", "words", f2, f3] (fun vs H Q _ => ∃ (a : Addr) (m v2 v3 : V), vs = [.ref a, m, v2, v3] ∧ H a = some (exo a C none) ∧ ∀ dx, H dx = none → dx ≠ a → Q .non (upd (upd (upd H dx (exd dx [(f2, v2)])) a (exo a C (some dx))) dx (exd dx [(f3, v3), (f2, v2)])))
section
variable {P : Program} {w : World} {K : PySem.W.Frag} {mg : Str → Option Value} {base : Heap}
/-- what the def of such an __init__ does -/
def tInit (K : PySem.W.Frag) (f2 f3 : Str) : TS := tSeq (tDrop (tVeI K (L2.tCons (L2.tVar 0) (L2.tCons (L2.tVar 1) L2.tNil)))) (tSeq (tOst K f2 (L2.tVar 0) (L2.tVar 2)) (tOst K f3 (L2.tVar 0) (L2.tVar 3)))
theorem xinit_of {x qual f2 f3 : Str} {st : Stmt} {C fI : Addr} {fd : FuncData} (hx : mg x = some (.ref C)) (T : OexC K C) (iC : PySem.W.findIn K (.ref C) "__init__" = some (some (.ref fI))) (tI : PySem.W.typeIn K (.ref fI) = some (.type "function"))
    (F : Fun K "__init__" qual st fI fd) (hb : Binds K fd ["self", "words", f2, f3] []) (S : FnScope ["self", "words", f2, f3] ["self", "words", f2, f3] (defScope st))
    (h2 : PySem.W.findIn K (.ref C) f2 = some none) (h3 : PySem.W.findIn K (.ref C) f3 = some none)
    (hbody : ∀ (cdv : Value) (A : Around) (outer : List Env) (s : Shared) (H : Hp) (E : XK), PSs (cxOf (L2N.CX P w) P w K mg base ["self", "words", f2, f3] qual (defScope st) fI cdv A outer s H E) (defBody st) (tInit K f2 f3)) :
    XInit P w K mg base x f2 f3 1 := by
  refine ⟨C, fI, fd, hx, T, iC, tI, hb, ?_⟩
  obtain ⟨oc, od, kV, doc, pm, an, cdv, ct, osl, rfl, lk, hcd⟩ := F.ex
  refine fn_of lk hcd S (fun vs H Q E h => ?_) fun A outer s H vs Q E hr h => ?_
  · obtain ⟨a, m, v2, v3, rfl, _⟩ := h
    rfl
  · obtain ⟨a, m, w2, w3, rfl, ha, h⟩ := h
    refine ⟨_, hbody cdv A outer s H E, ?_⟩
    refine ⟨_, rfl, _, rfl, a, C, _, rfl, (show 1 ≤ 1000 by decide), T, ha, ?_⟩
    refine ⟨_, rfl, _, rfl, a, C, rfl, T, h2, .inl ⟨ha, fun dx hdx ne => ?_⟩⟩
    refine ⟨_, rfl, _, rfl, a, C, rfl, T, h3, .inr ⟨dx, [(f2, w2)], upd_same, ?_, (show 1 ≤ 900 by decide), h dx hdx ne⟩⟩
    rw [upd_ne ne]
    exact upd_same
end
/-! ### raise C(words, a, b) -/
section
variable {X : Cx} {fx : List Nat} {Wx : WX} {pos : Pos}
def tRaiseC (x : String) (f2 f3 : Str) (ta : TaD) : TsD := fun DD ρ => ta ρ (fun rs ρ1 => match rs with
  | [.val _, .val d2, .val d3] => DD.ex ⟨x, [(f3, d3), (f2, d2)]⟩ ρ1
  | _ => False) DD.ex
theorem pv_raiseC {x : String} {f2 f3 : Str} {k : Nat} {ta : TaD} {e : Expr} {es : List Expr} {p pos2 : Pos} (c : XInit X.prog X.w X.K X.mg X.base x f2 f3 k) (hr : Room (k + 1) X.A) (hc : X.calm = true) (tk : L2N.Takes X Wx) (hg : Gl X x) (ha : PvA X fx Wx (e :: es) ta)
    (hdb : ((x : Str) == ("__debug__" : Str)) = false := by decide) (he : starEach (e :: es) X.env = (false, eval e X.env) :: starEach es X.env := by rfl) (hpl : (backTo pos (starEach es X.env)).any (·.1) = false := by rfl) :
    PvS X fx Wx (.Raise (some (.Call (.Name x p) (e :: es) [] pos)) none pos2) (tRaiseC x f2 f3 ta) := by
  obtain ⟨C, fI, fd, hx, T, iC, tI, hb, F1⟩ := c
  refine PS.imp (L2N.ps_raise hc tk (pmk_oexN (dvs := []) (ds := []) T iC tI F1 hr hb .nil (L2N.passes_call tk fun _ _ _ _ z => z.elim) hg hx ha hdb he hpl)) fun D σ H h => ?_
  obtain ⟨Hs, ρ, DD, hr', ht, hq⟩ := h
  refine ⟨Hs, ρ, _, _, hr', ht, fun g1 vs rs h1 e1 rp p1 => ?_, hq.ex⟩
  have ⟨d1, d2, d3, hrs, p2⟩ : ∃ d1 d2 d3, rs = [.val d1, .val d2, .val d3] ∧ DD.ex ⟨x, [(f3, d3), (f2, d2)]⟩ g1.ρ := by
    split at p1
    · exact ⟨_, _, _, rfl, p1⟩
    · exact p1.elim
  subst hrs
  match vs, rp with
  | [v1, v2, v3], ⟨r1, r2, r3, _⟩ =>
  refine ⟨show 3 ≤ 1000 by decide, fun a na => ⟨a, v1, v2, v3, rfl, upd_same, fun dx hdx ne => ?_⟩⟩
  have n1 : g1.H dx = none := by
    rw [upd_ne ne] at hdx
    exact hdx
  refine ⟨rfl, dx, [(f3, v3), (f2, v2)], ?_, upd_same, n1, ?_⟩
  · rw [upd_ne (Ne.symm ne), upd_same]
  · have eh : upd (del (upd (upd (upd (upd g1.H a (exo a C none)) dx (exd dx [(f2, v2)])) a (exo a C (some dx))) dx (exd dx [(f3, v3), (f2, v2)])) a) dx (.xd [(f3, v3), (f2, v2)]) = upd g1.H dx (.xd [(f3, v3), (f2, v2)]) := by
      funext b
      by_cases hb : b = dx
      · rw [hb, upd_same, upd_same]
      · rw [upd_ne hb, upd_ne hb]
        by_cases hba : b = a
        · rw [hba, del_same]
          exact na.symm
        · rw [del_ne hba, upd_ne hb, upd_ne hba, upd_ne hb, upd_ne hba]
    rw [eh]
    have ns : g1.Hs dx = none := by
      cases q : g1.Hs dx with
      | none => rfl
      | some o =>
        rw [h1.same dx o q] at n1
        cases n1
    have nO : ¬ OwnAt g1.ρ g1.σ dx := fun z => by
      obtain ⟨vs, q, _⟩ := z.there h1
      rw [n1] at q
      cases q
    have h2 : Rel X.K ⟨g1.Hs, g1.ρ, g1.σ, upd g1.H dx (.xd [(f3, v3), (f2, v2)])⟩ := rel_upd h1 ns nO (fun fv z => by
      rw [n1] at z
      cases z) (fun fv z => by
      rw [n1] at z
      cases z)
    have n0 : H dx = none := by
      cases q : H dx with
      | none => rfl
      | some o =>
        obtain ⟨o', q'⟩ := e1.ext.dom dx o q
        rw [n1] at q'
        cases q'
    have e2 : Ext fx ⟨Hs, ρ, σ, H⟩ ⟨g1.Hs, g1.ρ, g1.σ, upd g1.H dx (.xd [(f3, v3), (f2, v2)])⟩ := ext_upd e1.ext n0
    have := hq.ex _ (.ref C) (some dx) ⟨x, [(f3, d3), (f2, d2)]⟩ h2 e2 ⟨hx, .inr ⟨dx, _, by simp, rfl, upd_same, rfl, .cons r3 (.cons r2 .nil)⟩⟩ p2
    have sg : g1.σ = σ := e1.sg
    rw [sg] at this
    exact this
end
/-! ### a field of the caught exception -/
/-- what is had of the class x: its instances' field f is read -/
def XFld (K : PySem.W.Frag) (mg : Str → Option Value) (x : Str) (f : Str) : Prop := ∃ C, mg x = some (.ref C) ∧ XfC K C ∧ PySem.W.findIn K (.ref C) f = some none
def tFldE (a dd : Addr) (x : Xc) (c : String) (i : Nat) (f : Str) : TeD := fun ρ P _ => match ρ[i]? with
  | some (some (.exc a' dd' fs')) => (a' = a ∧ dd' = dd ∧ fs' = x.fs) ∧ x.cls = c ∧ onSome (x.fs.lookup f) fun d => P (.val d) ρ
  | _ => False
theorem look_dp {K : PySem.W.Frag} {Hs : Hp} {f : Str} {d : D} : ∀ {fv : List (Str × V)} {fs : List (Str × D)}, fv.map (·.1) = fs.map (·.1) → DpAll K Hs (fv.map (·.2)) (fs.map (·.2)) → fs.lookup f = some d → ∃ v, fv.lookup f = some v ∧ Dp K Hs v d
  | [], [], _, _, h => by cases h
  | [], _ :: _, h, _, _ => by cases h
  | _ :: _, [], h, _, _ => by cases h
  | (n, v) :: fv, (n', d') :: fs, h, k, e => by
    rw [List.map_cons, List.map_cons, List.cons.injEq] at h
    obtain ⟨rfl, h⟩ := h
    rw [List.map_cons, List.map_cons] at k
    cases k with
    | cons k1 k2 =>
      rw [List.lookup_cons] at e ⊢
      cases q : f == n with
      | true =>
        rw [q] at e
        cases e
        exact ⟨v, rfl, k1⟩
      | false =>
        rw [q] at e
        exact look_dp h k2 e
section
variable {X : Cx} {fx : List Nat} {Wx : WX}
theorem pe_xfX {a C : Addr} {oe : Obj} {cls : Value} {d : Option Addr} {e : Expr} {te : TE} {pos : Pos} {n : Str} (T : XfC X.K C) (hno : PySem.W.findIn X.K (.ref C) n = some none) (hp : (a, oe) ∈ X.pn)
    (hz : Zc cls d oe) (hf : ∃ vs, oe.data = .fields vs) (he : PE X e te) (hb : attributeBase e n X.env (eval e X.env) = eval e X.env := by rfl) : PE X (.Attribute e n pos) (tXf a cls d C n te) := by
  refine ⟨fun pins s σ H Q I h => ?_⟩
  refine attr_of hb (thn (he.run pins s σ H _ I h) fun u s1 hh => ?_)
  obtain ⟨x, H1, I1, rx, ex, ec, dd, fs, v, ed, ea, l, q⟩ := hh
  subst ex
  obtain rfl : u = Value.ref a := rx
  subst ec
  subst ed
  obtain ⟨ha, _⟩ := I1.pin (a, oe) (List.mem_append_left _ hp)
  obtain ⟨vs, hd⟩ := hf
  have hx : ObjOk X.prog X.w H1 s1.heap dd (.xd fs) := I1.hok dd _ ea
  obtain ⟨mA, hns, hr⟩ := hx
  obtain ⟨od, ho, hl⟩ := lookIn_ns hns
  obtain ⟨u, hu, ru⟩ := RelO.some_of (v := v) (o := mA n) (by rw [← l]; exact hr n)
  have J : PySem.W.InstAt s1.heap a oe C (some od) := ⟨ha, hz.1, by unfold PySem.W.notCls; rw [hd] <;> rfl, by rw [hz.2]; exact ho⟩
  exact HandSPX.exc_get I1.kIn J T.ga T.gg T.exC (PySem.W.findObj_own T.hdC hno rfl (by rw [hl, hu])) (handed_of ru) ⟨v, H1, I1.tok _, ru, q⟩
theorem pv_fld {a dd : Addr} {x : Xc} {c : String} {f n : Str} (i : Nat) {pos p : Pos} (hx : HX X a dd x) (F : XFld X.K X.mg c f)
    (hN : X.N[i]? = some n := by rfl) (hvi : Vis X.env.scope n := by first | exact Or.inl rfl | exact Or.inr (Or.inl rfl) | exact Or.inr (Or.inr rfl)) (hd : (n == ("__debug__" : Str)) = false := by decide) (hcd : (n == ("__classdict__" : Str)) = false := by decide)
    (hb : attributeBase (.Name n p) f X.env (eval (.Name n p) X.env) = eval (.Name n p) X.env := by rfl) : Pv X fx Wx (.Attribute (.Name n p) f pos) (tFldE a dd x c i f) := by
  obtain ⟨oe, hp, _, cls, d, hc, zn, hf, hdd⟩ := hx
  obtain ⟨C, mC, T, hno⟩ := F
  refine PE.imp (pe_xfX T hno hp zn.zc hf (pe_var (i := i) hN hvi hd hcd) hb) fun σ H Q h => ?_
  obtain ⟨Hs, ρ, P, PX, hr, ht, hq, _⟩ := h
  unfold tFldE at ht
  split at ht
  case h_2 => exact ht.elim
  rename_i a' dd' fs' hi
  obtain ⟨⟨rfl, rfl, e⟩, ec, ht⟩ := ht
  obtain ⟨dv, el, ht⟩ := onSome_ex ht
  obtain ⟨h1, h2⟩ := hr.exc i _ _ _ hi
  subst e
  rw [ec, mC] at hc
  cases hc
  have ne : x.fs ≠ [] := fun z => by
    rw [z] at el
    cases el
  rcases h2 with z | ⟨fv, hH, hn, hD⟩
  · exact absurd z ne
  obtain ⟨v, lv, dv'⟩ := look_dp hn hD el
  refine ⟨_, h1, rfl, rfl, dd', fv, v, ?_, hH, lv, hq ⟨Hs, ρ, σ, H⟩ _ (.val dv) hr .refl dv' ht⟩
  rcases hdd with ⟨z, _⟩ | ⟨_, z⟩
  · exact absurd z ne
  · exact z
end
end RR

namespace RR
open PySem PySem.Spec L2
abbrev pr (a b : Int) : D := .tuple [.int a, .int b]
def bagOk (xs : List D) : Prop := ∃ c s : Int, xs = [.int c, .int s] ∧ 0 ≤ c ∧ 0 ≤ s ∧ s < 2147483648
def sp__law_bag : SpD := fun ws P _ => ∃ (ns : List Int) (k : Int), ws = [.val (.list (ns.map .int)), .val (.int k)] ∧ 0 ≤ k ∧ k < 1000 ∧ ∀ b, bagOk b → P (.own b) ws
theorem len__law_bag : ∀ ws Q E, sp__law_bag ws Q E → ws.length = 2 := by
  rintro ws Q E ⟨ns, k, rfl, _⟩
  rfl
def N__law_bag : List Str := ["_law_script", "_law_k", "_law_cell", "_law_state"]
def t__law_bag : TsD :=
  (tSeqD (tSetD 2 (tK (.int 0)))
  (tSeqD (tIfD (tTst (tOp2 gLt (tVar 1) (tBlt gLen (tConsV (tVar 0) tNilA)))) (tSetD 2 (tBlt gAbs (tConsV (tOp2 gIx (tVar 0) (tVar 1)) tNilA))) tNextD)
  (tSeqD (tSetD 3 (tOp2 gAdd (tK (.int 1)) (tOp2 gMod (tOp2 gAdd (tOp2 gAdd (tOp2 gAdd (tOp2 gMod (tVar 2) (tK (.int 2147483647))) (tOp2 gMul (tOp2 gMul (tK (.int 7919)) (tVar 1)) (tVar 1))) (tOp2 gMul (tK (.int 11)) (tVar 1))) (tK (.int 5))) (tK (.int 2147483646)))))
  (tRetD (tLstD (tConsF (tOp2 gMul (tVar 2) (tBlt gInt (tConsV (tOp2 gGe (tVar 2) (tOp2 gPow (tK (.int 10)) (tK (.int 18)))) tNilA))) (tConsF (tVar 3) tNilA)))))))
theorem vc__law_bag : ∀ ws Q E, sp__law_bag ws Q E → t__law_bag (endsOf [] ws Q E) (startD N__law_bag ws) := by
  rintro ws Q E ⟨ns, k, rfl, hk0, hk1, h⟩
  refine seq_set (fun _ _ h => h) ?_
  refine seq_cut (fun ρ => ∃ c : Int, 0 ≤ c ∧ ρ = [some (.val (.list (ns.map .int))), some (.val (.int k)), some (.val (.int c)), none]) (fun kk hkk => ?_) ?_
  · refine brD (fun hlt => ?_) (fun _ => hkk _ ⟨0, by omega, rfl⟩)
    rw [List.length_map] at hlt
    obtain ⟨n, _, e⟩ := atI_ints hk0 hlt
    refine onSome_of e ?_
    exact hkk _ ⟨_, by omega, rfl⟩
  · rintro ρ ⟨c, hc, rfl⟩
    have bk : Bd 10 k := Bd.of_le (b := 1000) (by omega) (by decide)
    refine ⟨by decide, mulOk_bd (n := 13) (m := 10) (by decide) bk (by decide), mulOk_bd (n := 23) (m := 10) (Bd.mul (n := 13) (by decide) bk) bk (by decide), mulOk_bd (n := 4) (m := 10) (by decide) bk (by decide), by decide, ?_⟩
    refine ⟨⟨by decide, by decide, by decide⟩, mulOk_flag, ?_⟩
    refine h _ ⟨_, _, rfl, ?_, ?_, ?_⟩
    · split <;> omega
    · rw [fmod_pos (by decide), fmod_pos (by decide)]
      omega
    · rw [fmod_pos (by decide), fmod_pos (by decide)]
      omega
def sp__law_digit : SpD := fun ws P _ => ∃ (b : List D) (m : Int), ws = [.own b, .val (.int m)] ∧ bagOk b ∧ 0 < m ∧ m.natAbs.log2 < 9000 ∧ ∀ b' (r : Int), bagOk b' → 0 ≤ r → r < m → P (.val (.int r)) [.own b', .val (.int m)]
theorem len__law_digit : ∀ ws Q E, sp__law_digit ws Q E → ws.length = 2 := by
  rintro ws Q E ⟨b, m, rfl, _⟩
  rfl
def N__law_digit : List Str := ["_law_bag_here", "_law_many", "_law_found"]
def t__law_digit : TsD :=
  (tSeqD (tIfD (tTst (tOp2 gGt (tOp2 gIx (tVar 0) (tK (.int 0))) (tK (.int 0)))) (tSeqD (tSetD 2 (tOp2 gMod (tOp2 gIx (tVar 0) (tK (.int 0))) (tVar 1)))
  (tSeqD (tItemD 0 (tK (.int 0)) (tOp2 gDiv (tOp2 gIx (tVar 0) (tK (.int 0))) (tVar 1)))
  (tRetD (tVar 2)))) tNextD)
  (tSeqD (tItemD 0 (tK (.int 1)) (tOp2 gMod (tOp2 gMul (tOp2 gIx (tVar 0) (tK (.int 1))) (tK (.int 48271))) (tK (.int 2147483647))))
  (tRetD (tOp2 gMod (tOp2 gDiv (tOp2 gMod (tOp2 gMul (tOp2 gIx (tVar 0) (tK (.int 1))) (tK (.int 16807))) (tK (.int 2147483647))) (tK (.int 32))) (tVar 1)))))
theorem vc__law_digit : ∀ ws Q E, sp__law_digit ws Q E → t__law_digit (endsOf [0] ws Q E) (startD N__law_digit ws) := by
  rintro ws Q E ⟨b, m, rfl, ⟨c, s, rfl, hc, hs, hs2⟩, hm, hl, h⟩
  refine brD (fun h0 => ?_) (fun h0 => ?_)
  · refine ⟨by omega, ⟨by omega, hl⟩, ?_⟩
    refine h _ _ ⟨_, _, rfl, ?_, hs, hs2⟩ ?_ ?_
    · rw [fdiv_pos hm]
      exact Int.ediv_nonneg hc (by omega)
    · rw [fmod_pos hm]
      exact Int.emod_nonneg _ (by omega)
    · rw [fmod_pos hm]
      exact Int.emod_lt_of_pos _ hm
  · have bs : Bd 31 s := Bd.of_le (b := 2147483647) (by omega) (by decide)
    refine ⟨mulOk_bd (n := 31) (m := 17) bs (by decide) (by decide), by decide, ?_⟩
    have b2 : Bd 31 ((s * 48271).fmod 2147483647) := Bd.of_le (b := 2147483647) (by rw [fmod_pos (by decide)]; omega) (by decide)
    refine ⟨mulOk_bd (n := 31) (m := 17) b2 (by decide) (by decide), by decide, ⟨by decide, by decide⟩, by omega, ?_⟩
    refine h _ _ ⟨_, _, rfl, hc, ?_, ?_⟩ ?_ ?_
    · rw [fmod_pos (by decide)]; omega
    · rw [fmod_pos (by decide)]; omega
    · rw [fmod_pos hm]
      exact Int.emod_nonneg _ (by omega)
    · rw [fmod_pos hm]
      exact Int.emod_lt_of_pos _ hm
end RR

namespace RR
open PySem PySem.Spec L2
/-! ### ratios -/
/-- in lowest terms -/
def lo (t b : Int) : Int := t / (Int.gcd t b : Int)
def ratN (t b : Int) : Int := if b < 0 then lo (-t) (-b) else lo t b
def ratD (t b : Int) : Int := if b < 0 then lo (-b) (-t) else lo b t
def rat (t b : Int) : D := pr (ratN t b) (ratD t b)
theorem gcd_step {a b : Int} (ha : 0 ≤ a) (hb : 0 < b) : Int.gcd b (a % b) = Int.gcd a b := by
  obtain ⟨m, rfl⟩ := Int.eq_ofNat_of_zero_le ha
  obtain ⟨n, rfl⟩ := Int.eq_ofNat_of_zero_le (show 0 ≤ b by omega)
  show Nat.gcd n (m % n) = Nat.gcd m n
  rw [Nat.gcd_comm m n, Nat.gcd_rec n m, Nat.gcd_comm]
def sp_is_whole : SpD := fun ws P _ => ∃ d, ws = [.val d] ∧ P (.val (.bool (isTy "int" d && !isTy "bool" d))) ws
theorem len_is_whole : ∀ ws Q E, sp_is_whole ws Q E → ws.length = 1 := by
  rintro ws Q E ⟨d, rfl, _⟩
  rfl
def N_is_whole : List Str := ["thing"]
def t_is_whole : TsD :=
  (tRetD (tAndE (tOp1 (gIsI "int") (tVar 0)) (tNotE (tOp1 (gIsI "bool") (tVar 0)))))
theorem vc_is_whole : ∀ ws Q E, sp_is_whole ws Q E → t_is_whole (endsOf [] ws Q E) (startD N_is_whole ws) := by
  rintro ws Q E ⟨d, rfl, h⟩
  refine brB (fun h1 => ?_) (fun h1 => ?_)
  · rw [h1] at h
    exact h
  · rw [h1] at h
    exact h
def sp_divisor : SpD := fun ws P _ => ∃ a b : Int, ws = [.val (.int a), .val (.int b)] ∧ P (.val (.int (Int.gcd a b : Nat))) ws
theorem len_divisor : ∀ ws Q E, sp_divisor ws Q E → ws.length = 2 := by
  rintro ws Q E ⟨a, b, rfl, _⟩
  rfl
def N_divisor : List Str := ["one", "other"]
def t_divisor : TsD :=
  (tSeqD (tSetD 0 (tBlt gAbs (tConsV (tVar 0) tNilA)))
  (tSeqD (tSetD 1 (tBlt gAbs (tConsV (tVar 1) tNilA)))
  (tSeqD (tWhileD (tTst (tOp2 gGt (tVar 1) (tK (.int 0)))) (tParD 0 1 (tConsF (tVar 1) (tConsF (tOp2 gMod (tVar 0) (tVar 1)) tNilA))))
  (tRetD (tVar 0)))))
theorem vc_divisor : ∀ ws Q E, sp_divisor ws Q E → t_divisor (endsOf [] ws Q E) (startD N_divisor ws) := by
  rintro ws Q E ⟨a, b, rfl, h⟩
  refine ⟨fun n ρ => ∃ x y : Int, ρ = [some (.val (.int x)), some (.val (.int y))] ∧ 0 ≤ x ∧ 0 ≤ y ∧ Int.gcd x y = Int.gcd a b ∧ n = y.toNat, ⟨_, _, _, rfl, by omega, by omega, by simp [Int.gcd], rfl⟩, ?_⟩
  rintro n ρ ⟨x, y, rfl, hx, hy, hg, rfl⟩
  refine brD (fun h0 => ?_) (fun h0 => ?_)
  · refine ⟨by omega, ?_⟩
    have h1 := Int.emod_nonneg x (show y ≠ 0 by omega)
    have h2 := Int.emod_lt_of_pos x h0
    rw [fmod_pos h0]
    exact ⟨_, by omega, _, _, rfl, hy, h1, by rw [gcd_step hx h0, hg], rfl⟩
  · have e : y = 0 := by omega
    subst e
    have e2 : x = (Int.gcd a b : Nat) := by rw [← hg]; simp; omega
    show Q (.val (.int x)) _
    rw [e2]
    exact h
theorem gcd_bd {n : Nat} {t b : Int} (h : b ≠ 0) (k : Bd n b) : Bd n (Int.gcd t b : Nat) ∧ ((Int.gcd t b : Nat) : Int) ≠ 0 ∧ 0 < ((Int.gcd t b : Nat) : Int) := by
  have p : 0 < Int.gcd t b := Nat.pos_of_ne_zero fun z => h (Int.gcd_eq_zero_iff.mp z).2
  have l : Int.gcd t b ≤ b.natAbs := Nat.gcd_le_right _ (by omega)
  refine ⟨?_, by omega, by omega⟩
  unfold Bd at *
  simp only [Int.natAbs_natCast]
  omega
end RR

namespace RR
open PySem PySem.Spec L2
/-! ### pairs and rays -/
def whB (d : D) : Bool := isTy "int" d && !isTy "bool" d
theorem whB_int {d : D} (h : whB d = true) : ∃ a, d = .int a := by
  cases d <;> first | exact ⟨_, rfl⟩ | exact absurd h (by unfold whB; decide) | (rename_i b; cases b <;> exact absurd h (by unfold whB; decide)) | exact absurd h (by show ¬ (false && _) = true; simp)
def pairB : D → Bool
  | .tuple [x, y] => whB x && whB y
  | _ => false
def rayB : D → Bool
  | .tuple [.int a, .int b] => decide (Int.gcd a b = 1)
  | _ => false
theorem pairB_ints {d : D} (h : pairB d = true) : ∃ a b, d = pr a b := by
  unfold pairB at h
  split at h
  · rw [Bool.and_eq_true] at h
    obtain ⟨a, rfl⟩ := whB_int h.1
    obtain ⟨b, rfl⟩ := whB_int h.2
    exact ⟨a, b, rfl⟩
  · cases h
theorem rayB_false {d : D} (h : pairB d = false) : rayB d = false := by
  unfold rayB
  split
  · cases h
  · rfl
def sp_is_pair : SpD := fun ws P _ => ∃ d, ws = [.val d] ∧ P (.val (.bool (pairB d))) ws
theorem len_is_pair : ∀ ws Q E, sp_is_pair ws Q E → ws.length = 1 := by
  rintro ws Q E ⟨d, rfl, _⟩
  rfl
def N_is_pair : List Str := ["thing"]
def t_is_pair : TsD :=
  (tRetD (tAndE (tOp1 (gIsI "tuple") (tVar 0)) (tAndE (tOp2 gEq (tBlt gLen (tConsV (tVar 0) tNilA)) (tK (.int 2))) (tAndE (tCallD [] sp_is_whole (tConsF (tOp2 gIx (tVar 0) (tK (.int 0))) tNilA)) (tCallD [] sp_is_whole (tConsF (tOp2 gIx (tVar 0) (tK (.int 1))) tNilA))))))
theorem vc_is_pair : ∀ ws Q E, sp_is_pair ws Q E → t_is_pair (endsOf [] ws Q E) (startD N_is_pair ws) := by
  rintro ws Q E ⟨d, rfl, h⟩
  cases d with
  | tuple xs =>
    match xs, h with
    | [], h => exact ⟨rfl, rfl, h⟩
    | [x], h => exact ⟨rfl, rfl, h⟩
    | [x, y], h =>
      refine ⟨rfl, rfl, _, rfl, brB (fun h1 => ?_) (fun h1 => ?_)⟩
      · refine ⟨_, rfl, ?_⟩
        have e : pairB (.tuple [x, y]) = (isTy "int" y && !isTy "bool" y) := by
          show (whB x && whB y) = _
          rw [show whB x = true from h1, Bool.true_and]
          rfl
        rw [e] at h
        exact h
      · have e : pairB (.tuple [x, y]) = false := by
          show (whB x && whB y) = _
          rw [show whB x = false from h1, Bool.false_and]
        rw [e] at h
        exact h
    | x :: y :: z :: r, h =>
      exact ⟨rfl, rfl, h⟩
  | none => exact h
  | bool b => exact h
  | int b => exact h
  | str b => exact h
  | list b => exact h
  | dict b => exact h
def sp_common : SpD := fun ws P _ => ∃ a b : Int, ws = [.val (pr a b)] ∧ P (.val (.int (Int.gcd a b : Nat))) ws
theorem len_common : ∀ ws Q E, sp_common ws Q E → ws.length = 1 := by
  rintro ws Q E ⟨a, b, rfl, _⟩
  rfl
def N_common : List Str := ["pair"]
def t_common : TsD :=
  (tRetD (tCallD [] sp_divisor (tConsF (tOp2 gIx (tVar 0) (tK (.int 0))) (tConsF (tOp2 gIx (tVar 0) (tK (.int 1))) tNilA))))
theorem vc_common : ∀ ws Q E, sp_common ws Q E → t_common (endsOf [] ws Q E) (startD N_common ws) := by
  rintro ws Q E ⟨a, b, rfl, h⟩
  exact ⟨a, b, rfl, h⟩
def sp_is_ray : SpD := fun ws P _ => ∃ d, ws = [.val d] ∧ P (.val (.bool (rayB d))) ws
theorem len_is_ray : ∀ ws Q E, sp_is_ray ws Q E → ws.length = 1 := by
  rintro ws Q E ⟨d, rfl, _⟩
  rfl
def N_is_ray : List Str := ["thing"]
def t_is_ray : TsD :=
  (tRetD (tAndE (tCallD [] sp_is_pair (tConsF (tVar 0) tNilA)) (tOp2 gEq (tCallD [] sp_common (tConsF (tVar 0) tNilA)) (tK (.int 1)))))
theorem nat_beq_one (n : Nat) : ((n : Int) == 1) = decide (n = 1) := by
  rw [Bool.beq_eq_decide_eq]
  exact decide_eq_decide.mpr ⟨fun h => by omega, fun h => by omega⟩
theorem vc_is_ray : ∀ ws Q E, sp_is_ray ws Q E → t_is_ray (endsOf [] ws Q E) (startD N_is_ray ws) := by
  rintro ws Q E ⟨d, rfl, h⟩
  refine ⟨_, rfl, brB (fun h1 => ?_) (fun h1 => ?_)⟩
  · obtain ⟨a, b, rfl⟩ := pairB_ints h1
    refine ⟨a, b, rfl, rfl, rfl, ?_⟩
    show Q (.val (.bool (((Int.gcd a b : Nat) : Int) == 1))) _
    rw [nat_beq_one]
    exact h
  · rw [rayB_false h1] at h
    exact h
def sp_crossed : SpD := fun ws P _ => ∃ a b c d : Int, ws = [.val (pr a b), .val (pr c d)] ∧ mulOk a d ∧ mulOk b c ∧ P (.val (.int (a * d - b * c))) ws
theorem len_crossed : ∀ ws Q E, sp_crossed ws Q E → ws.length = 2 := by
  rintro ws Q E ⟨a, b, c, d, rfl, _⟩
  rfl
def N_crossed : List Str := ["one", "other"]
def t_crossed : TsD :=
  (tRetD (tOp2 gSub (tOp2 gMul (tOp2 gIx (tVar 0) (tK (.int 0))) (tOp2 gIx (tVar 1) (tK (.int 1)))) (tOp2 gMul (tOp2 gIx (tVar 0) (tK (.int 1))) (tOp2 gIx (tVar 1) (tK (.int 0))))))
theorem vc_crossed : ∀ ws Q E, sp_crossed ws Q E → t_crossed (endsOf [] ws Q E) (startD N_crossed ws) := by
  rintro ws Q E ⟨a, b, c, d, rfl, h1, h2, h⟩
  exact ⟨h1, h2, h⟩
theorem gcd_bd2 {n : Nat} {x y : Int} (h : Bd n x) (k : Bd n y) : Bd n (Int.gcd x y : Nat) := by
  by_cases e : y = 0
  · subst e
    unfold Bd at *
    simp
    exact h
  · exact (gcd_bd e k).1
end RR

namespace RR
open PySem PySem.Spec L2
/-! ### rounds of rays -/
abbrev Pt := Int × Int
def cr (p q : Pt) : Int := p.1 * q.2 - p.2 * q.1
abbrev pd (p : Pt) : D := pr p.1 p.2
abbrev prs (l : List Pt) : List D := l.map pd
/-- from a through l to b, each step by R -/
def Ch (R : Pt → Pt → Prop) : Pt → List Pt → Pt → Prop
  | a, [], b => R a b
  | a, x :: l, b => R a x ∧ Ch R x l b
theorem ch_append {R : Pt → Pt → Prop} : ∀ {l m : List Pt} {a x b : Pt}, Ch R a (l ++ x :: m) b ↔ Ch R a l x ∧ Ch R x m b
  | [], m, a, x, b => Iff.rfl
  | y :: l, m, a, x, b => by
    show (R a y ∧ Ch R y (l ++ x :: m) b) ↔ (R a y ∧ Ch R y l x) ∧ Ch R x m b
    rw [ch_append, and_assoc]
theorem ch_imp {R T : Pt → Pt → Prop} {f : Pt → Pt} (h : ∀ p q, R p q → T (f p) (f q)) : ∀ {l : List Pt} {a b : Pt}, Ch R a l b → Ch T (f a) (l.map f) (f b)
  | [], _, _, k => h _ _ k
  | _ :: _, _, _, k => ⟨h _ _ k.1, ch_imp h k.2⟩
theorem ch_rev {R T : Pt → Pt → Prop} (h : ∀ p q, R p q → T q p) : ∀ {l : List Pt} {a b : Pt}, Ch R a l b → Ch T b l.reverse a
  | [], _, _, k => h _ _ k
  | x :: l, a, b, k => by
    rw [List.reverse_cons]
    exact ch_append.mpr ⟨ch_rev h k.2, h _ _ k.1⟩
/-- a round: each ray to the next, the last to the first -/
def Cyc (R : Pt → Pt → Prop) : List Pt → Prop
  | [] => True
  | a :: l => Ch R a l a
theorem cyc_rot {R : Pt → Pt → Prop} {l m : List Pt} (h : Cyc R (l ++ m)) : Cyc R (m ++ l) := by
  cases l with
  | nil => rw [List.append_nil]; exact h
  | cons a l =>
    cases m with
    | nil => rw [List.append_nil] at h; exact h
    | cons b m =>
      have k := ch_append.mp (show Ch R a (l ++ b :: m) a from h)
      exact ch_append.mpr ⟨k.2, k.1⟩
theorem cyc_map {R T : Pt → Pt → Prop} {f : Pt → Pt} (h : ∀ p q, R p q → T (f p) (f q)) {l : List Pt} (k : Cyc R l) : Cyc T (l.map f) := by
  cases l with
  | nil => trivial
  | cons a l => exact ch_imp h k
theorem cyc_rev {R T : Pt → Pt → Prop} (h : ∀ p q, R p q → T q p) {l : List Pt} (k : Cyc R l) : Cyc T l.reverse := by
  cases l with
  | nil => trivial
  | cons a l =>
    rw [List.reverse_cons]
    have q : Cyc T ([a] ++ l.reverse) := ch_rev h k
    exact cyc_rot q
/-- the steps of a round, in order -/
def steps (l : List Pt) : List (Pt × Pt) := l.zip (l.drop 1 ++ l.take 1)
theorem ch_steps {R : Pt → Pt → Prop} : ∀ {l : List Pt} {a b : Pt}, Ch R a l b ↔ ∀ w ∈ (a :: l).zip (l ++ [b]), R w.1 w.2
  | [], a, b => by simp [Ch]
  | x :: l, a, b => by
    show (R a x ∧ Ch R x l b) ↔ ∀ w ∈ (a, x) :: (x :: l).zip (l ++ [b]), R w.1 w.2
    rw [ch_steps (l := l)]
    simp
theorem cyc_steps {R : Pt → Pt → Prop} {l : List Pt} : Cyc R l ↔ ∀ w ∈ steps l, R w.1 w.2 := by
  cases l with
  | nil => simp [Cyc, steps]
  | cons a l => exact ch_steps
abbrev Uni (p q : Pt) : Prop := cr p q = 1
abbrev Smooth (l : List Pt) : Prop := Cyc Uni l
/-- a sum put in between two neighbours -/
def sm (p q : Pt) : Pt := (p.1 + q.1, p.2 + q.2)
theorem uni_sm {p q : Pt} (h : Uni p q) : Uni p (sm p q) ∧ Uni (sm p q) q := by
  unfold Uni cr sm at *
  constructor
  · show p.1 * (p.2 + q.2) - p.2 * (p.1 + q.1) = 1
    grind
  · show (p.1 + q.1) * q.2 - (p.2 + q.2) * q.1 = 1
    grind
theorem smooth_put {a b : Pt} {l m : List Pt} (h : Smooth (l ++ a :: b :: m)) : Smooth (l ++ a :: sm a b :: b :: m) := by
  have k : Smooth (a :: b :: m ++ l) := cyc_rot h
  have k2 : Uni a b ∧ Ch Uni b (m ++ l) a := k
  have k3 : Smooth (a :: sm a b :: b :: m ++ l) := ⟨(uni_sm k2.1).1, (uni_sm k2.1).2, k2.2⟩
  exact cyc_rot (l := a :: sm a b :: b :: m) k3
theorem smooth_put_end {a b : Pt} {l : List Pt} (h : Smooth (b :: l ++ [a])) : Smooth (b :: l ++ [a, sm a b]) := by
  have k : Smooth (a :: b :: l) := cyc_rot (l := b :: l) (m := [a]) h
  have k3 : Smooth (a :: sm a b :: b :: l) := ⟨(uni_sm k.1).1, (uni_sm k.1).2, k.2⟩
  exact cyc_rot (l := [a, sm a b]) (m := b :: l) k3
/-- a table led over rays -/
def ld (a b c d : Int) (p : Pt) : Pt := (a * p.1 + b * p.2, c * p.1 + d * p.2)
theorem cr_ld (a b c d : Int) (p q : Pt) : cr (ld a b c d p) (ld a b c d q) = (a * d - b * c) * cr p q := by
  unfold cr ld
  show (a * p.1 + b * p.2) * (c * q.1 + d * q.2) - (c * p.1 + d * p.2) * (a * q.1 + b * q.2) = (a * d - b * c) * (p.1 * q.2 - p.2 * q.1)
  grind
theorem cr_neg (p q : Pt) : cr q p = - cr p q := by
  unfold cr
  grind
end RR

namespace RR
open PySem PySem.Spec L2
theorem cut_from (xs : List D) (k : Nat) : cutD xs (some (k : Int)) none = xs.drop k := by
  unfold cutD
  rw [HT.sIx_nat, HT.sIx_none]
  by_cases h : k ≤ xs.length
  · rw [Nat.min_eq_left h, List.take_of_length_le (by rw [List.length_drop]; omega)]
  · rw [Nat.min_eq_right (by omega), List.drop_of_length_le (Nat.le_refl _), List.drop_of_length_le (by omega), List.take_nil]
theorem cut_to (xs : List D) (k : Nat) : cutD xs none (some (k : Int)) = xs.take k := by
  unfold cutD
  rw [HT.sIx_nat, HT.sIx_none, List.drop_zero, Nat.sub_zero]
  by_cases h : k ≤ xs.length
  · rw [Nat.min_eq_left h]
  · rw [Nat.min_eq_right (by omega), List.take_of_length_le (Nat.le_refl _), List.take_of_length_le (by omega)]
theorem loop_enum {α : Type} {ss : Srcs} {g : TgD} {tb : TsD} {DD : EndsD} (f : α → D) (I : Nat → List α → Rho → Prop)
    (hs : ∀ i x post ρ, I i (x :: post) ρ → ∀ k : Rho → Prop, (∀ ρ2, I (i + 1) post ρ2 → k ρ2) → g (.tuple [.int (i : Nat), f x]) ρ fun ρ1 => tb { DD with nx := fun ρ2 => srcOk ss ρ2 ∧ k ρ2, ct := fun ρ2 => srcOk ss ρ2 ∧ k ρ2, bk := DD.nx } ρ1)
    (hd : ∀ i ρ, I i [] ρ → DD.nx ρ) : ∀ (xs : List α) (i : Nat) ρ, I i xs ρ → loopD ss g tb DD (((xs.map f).zipIdx i).map fun p => .tuple [.int (p.2 : Nat), p.1]) ρ
  | [], i, ρ, h => hd i ρ h
  | x :: xs, i, ρ, h => hs i x xs ρ h _ fun ρ2 h2 => loop_enum f I hs hd xs (i + 1) ρ2 h2
/-- a slot that holds a list -/
def isL (w : W) (l : List D) : Prop := w = .own l ∨ w = .val (.list l)
abbrev wd (w : Pt × Pt) : D := .tuple [pd w.1, pd w.2]
theorem zip_wd : ∀ (l m : List Pt), zipD (prs l) (prs m) = (l.zip m).map wd
  | [], _ => rfl
  | _ :: _, [] => rfl
  | a :: l, b :: m => by
    show PyData.tuple [pd a, pd b] :: zipD (prs l) (prs m) = wd (a, b) :: (l.zip m).map wd
    rw [zip_wd]
theorem steps_cut {l : List Pt} : (steps l).map wd = zipD (prs l) (cutD (prs l) (some ((1 : Nat) : Int)) none ++ cutD (prs l) none (some ((1 : Nat) : Int))) := by
  rw [cut_from, cut_to]
  unfold steps
  show _ = zipD (prs l) ((l.map pd).drop 1 ++ (l.map pd).take 1)
  rw [← zip_wd, ← List.map_drop, ← List.map_take, ← List.map_append]
theorem steps_len {l : List Pt} (hl : l.length ≤ 400000) : (cutD (prs l) (some ((1 : Nat) : Int)) none).length + (cutD (prs l) none (some ((1 : Nat) : Int))).length ≤ 1000000 := by
  rw [cut_from, cut_to, List.length_drop, List.length_take, List.length_map]
  omega
/-- the first step that is not of cross 1 -/
def fb : Nat → List (Pt × Pt) → D
  | _, [] => .none
  | i, w :: ws => if cr w.1 w.2 = 1 then fb (i + 1) ws else .int (i : Nat)
def Small (l : List Pt) : Prop := ∀ p ∈ l, Bd 5000 p.1 ∧ Bd 5000 p.2
theorem steps_mem {l : List Pt} {w : Pt × Pt} (h : w ∈ steps l) : w.1 ∈ l ∧ w.2 ∈ l := by
  obtain ⟨h1, h2⟩ := List.of_mem_zip (show (w.1, w.2) ∈ _ from h)
  refine ⟨h1, ?_⟩
  rcases List.mem_append.mp h2 with h | h
  · exact List.mem_of_mem_drop h
  · exact List.mem_of_mem_take h
theorem ne_one {x : Int} : (!PyData.eqv (.int x) (.int 1)) = !decide (x = 1) := by
  show (!(x == 1)) = _
  rw [Bool.beq_eq_decide_eq]
theorem fb_smooth : ∀ {ws : List (Pt × Pt)} {i : Nat}, (∀ w ∈ ws, cr w.1 w.2 = 1) → fb i ws = .none
  | [], _, _ => rfl
  | w :: ws, i, h => by
    show (if _ then _ else _) = _
    rw [if_pos (h w (by simp))]
    exact fb_smooth fun v hv => h v (by simp [hv])
end RR

namespace RR
open PySem PySem.Spec L2
def sp_wedges : SpD := fun ws P _ => ∃ l : List Pt, ws = [.val (.list (prs l))] ∧ l.length ≤ 400000 ∧ P (.val (.list ((steps l).map wd))) ws
theorem len_wedges : ∀ ws Q E, sp_wedges ws Q E → ws.length = 1 := by
  rintro ws Q E ⟨l, rfl, _⟩
  rfl
def N_wedges : List Str := ["rays"]
def t_wedges : TsD :=
  (tRetD (tBlt gLz (tConsV (tVar 0) (tConsV (tOp2 gAdd (tSlD (tVar 0) (tPt (tK (.int 1))) tNoPt) (tSlD (tVar 0) tNoPt (tPt (tK (.int 1))))) tNilA))))
theorem vc_wedges : ∀ ws Q E, sp_wedges ws Q E → t_wedges (endsOf [] ws Q E) (startD N_wedges ws) := by
  rintro ws Q E ⟨l, rfl, hl, h⟩
  rw [steps_cut] at h
  exact ⟨steps_len hl, h⟩
def sp_unspanned : SpD := fun ws P _ => ∃ l : List Pt, ws = [.val (.list (prs l))] ∧ l.length ≤ 400000 ∧ Small l ∧ P (.val (fb 0 (steps l))) ws
theorem len_unspanned : ∀ ws Q E, sp_unspanned ws Q E → ws.length = 1 := by
  rintro ws Q E ⟨l, rfl, _⟩
  rfl
def N_unspanned : List Str := ["rays", "at", "pair"]
def t_unspanned : TsD :=
  (tSeqD (tForD (tiEn [] (tConsV (tCallD [] sp_wedges (tConsF (tVar 0) tNilA)) tNilA)) (gTupD 2 (gsConsD (gNameD 1) (gsConsD (gNameD 2) gsNilD))) (tIfD (tTst (tOp2 gNe (tCallD [] sp_crossed (tConsF (tOp2 gIx (tVar 2) (tK (.int 0))) (tConsF (tOp2 gIx (tVar 2) (tK (.int 1))) tNilA))) (tK (.int 1)))) (tRetD (tVar 1)) tNextD))
  (tRetD (tK .none)))
theorem vc_unspanned : ∀ ws Q E, sp_unspanned ws Q E → t_unspanned (endsOf [] ws Q E) (startD N_unspanned ws) := by
  rintro ws Q E ⟨l, rfl, hl, hB, h⟩
  refine ⟨l, rfl, hl, ?_⟩
  refine loop_enum wd (fun i post ρ => (∀ x ∈ post, x ∈ steps l) ∧ fb 0 (steps l) = fb i post ∧ ∃ a b, ρ = [some (W.val (.list (prs l))), a, b]) ?_ ?_ (steps l) 0 _ ⟨fun _ h => h, rfl, _, _, rfl⟩
  · rintro i x post ρ ⟨hm, hf, a, b, rfl⟩ k hk
    obtain ⟨m1, m2⟩ := steps_mem (hm x (by simp))
    obtain ⟨b1, b2⟩ := hB _ m1
    obtain ⟨b3, b4⟩ := hB _ m2
    refine ⟨x.1.1, x.1.2, x.2.1, x.2.2, rfl, mulOk_bd b1 b4 (by decide), mulOk_bd b2 b3 (by decide), rfl, rfl, ?_⟩
    by_cases hc : cr x.1 x.2 = 1
    · refine brF (by rw [ne_one]; exact (show (!decide (cr x.1 x.2 = 1)) = false by simp [hc])) ⟨srcN, hk _ ⟨fun y hy => hm y (by simp [hy]), ?_, _, _, rfl⟩⟩
      rw [hf]
      show (if _ then _ else _) = _
      rw [if_pos hc]
    · refine brT (by rw [ne_one]; exact (show (!decide (cr x.1 x.2 = 1)) = true by simp [hc])) ?_
      have e2 : fb 0 (steps l) = .int (i : Nat) := by
        rw [hf]
        show (if _ then _ else _) = _
        rw [if_neg hc]
      rw [e2] at h
      exact h
  · rintro i ρ ⟨_, hf, a, b, rfl⟩
    rw [hf] at h
    exact h
end RR

namespace RR
open PySem PySem.Spec L2
/-! ### plain data: no truths, no dicts; equality is the same as being the same -/
def pl : Nat → D → Bool
  | _, .none => true
  | _, .int _ => true
  | _, .str x => PyData.strOk x
  | _, .bool _ => false
  | _, .dict _ => false
  | 0, .list _ => false
  | 0, .tuple _ => false
  | n + 1, .list xs => xs.all (pl n)
  | n + 1, .tuple xs => xs.all (pl n)
theorem lay_all {n : Nat} (ih : ∀ d, pl n d = true → PyData.canLay0 d = true ∧ PyData.depth d ≤ n) : ∀ {xs : List D}, xs.all (pl n) = true → PyData.canLayAll0 xs = true ∧ PyData.depthAll xs ≤ n
  | [], _ => ⟨by simp only [PyData.canLayAll0], by simp only [PyData.depthAll]; omega⟩
  | x :: xs, h => by
    rw [List.all_cons, Bool.and_eq_true] at h
    obtain ⟨a, b⟩ := ih x h.1
    obtain ⟨c, d⟩ := lay_all ih h.2
    refine ⟨by simp only [PyData.canLayAll0, a, c, Bool.and_self], ?_⟩
    simp only [PyData.depthAll]
    omega
theorem pl_lay : ∀ {n : Nat} (d : D), pl n d = true → PyData.canLay0 d = true ∧ PyData.depth d ≤ n
  | _, .none, _ => ⟨by simp only [PyData.canLay0], by simp only [PyData.depth]; omega⟩
  | _, .int _, _ => ⟨by simp only [PyData.canLay0], by simp only [PyData.depth]; omega⟩
  | _, .str x, h => ⟨by simp only [PyData.canLay0]; simpa [pl] using h, by simp only [PyData.depth]; omega⟩
  | _, .bool _, h => by simp [pl] at h
  | _, .dict _, h => by simp [pl] at h
  | 0, .list _, h => by simp [pl] at h
  | 0, .tuple _, h => by simp [pl] at h
  | n + 1, .list xs, h => by
    have h : xs.all (pl n) = true := by simpa only [pl] using h
    obtain ⟨a, b⟩ := lay_all (fun d => pl_lay (n := n) d) h
    exact ⟨by simp only [PyData.canLay0]; exact a, by simp only [PyData.depth]; omega⟩
  | n + 1, .tuple xs, h => by
    have h : xs.all (pl n) = true := by simpa only [pl] using h
    obtain ⟨a, b⟩ := lay_all (fun d => pl_lay (n := n) d) h
    exact ⟨by simp only [PyData.canLay0]; exact a, by simp only [PyData.depth]; omega⟩
theorem pl_shaped {n : Nat} {d : D} (h : pl n d = true) (hn : n ≤ 64) : SeqAt.shaped d = true := by
  obtain ⟨a, b⟩ := pl_lay d h
  unfold SeqAt.shaped
  rw [a, Bool.true_and]
  exact decide_eq_true (by omega)
theorem eqv_all {n m : Nat} (ih : ∀ d e, pl n d = true → pl m e = true → (PyData.eqv d e = true ↔ d = e)) : ∀ {xs ys : List D}, xs.all (pl n) = true → ys.all (pl m) = true → (PyData.eqvAll xs ys = true ↔ xs = ys)
  | [], [], _, _ => by simp only [PyData.eqvAll]
  | [], _ :: _, _, _ => by simp [PyData.eqvAll]
  | _ :: _, [], _, _ => by simp [PyData.eqvAll]
  | x :: xs, y :: ys, h, k => by
    rw [List.all_cons, Bool.and_eq_true] at h k
    have a := ih x y h.1 k.1
    have b := eqv_all ih h.2 k.2
    simp only [PyData.eqvAll, Bool.and_eq_true, a, b, List.cons.injEq]
theorem pl_eqv : ∀ {n m : Nat} (d e : D), pl n d = true → pl m e = true → (PyData.eqv d e = true ↔ d = e)
  | _, _, .none, e, _, k => by cases e <;> simp [PyData.eqv]
  | _, _, .int i, e, _, k => by cases e <;> first | simp [pl] at k; done | simp [PyData.eqv]
  | _, _, .str x, e, _, k => by cases e <;> simp [PyData.eqv]
  | _, _, .bool _, _, h, _ => by simp [pl] at h
  | _, _, .dict _, _, h, _ => by simp [pl] at h
  | 0, _, .list _, _, h, _ => by simp [pl] at h
  | 0, _, .tuple _, _, h, _ => by simp [pl] at h
  | n + 1, m, .list xs, e, h, k => by
    have h : xs.all (pl n) = true := by simpa only [pl] using h
    cases e with
    | list ys =>
      cases m with
      | zero => simp [pl] at k
      | succ m =>
        have k : ys.all (pl m) = true := by simpa only [pl] using k
        have := eqv_all (fun d e => pl_eqv (n := n) (m := m) d e) h k
        simp only [PyData.eqv, this, PyData.list.injEq]
    | none => simp [PyData.eqv]
    | bool _ => simp [PyData.eqv]
    | int _ => simp [PyData.eqv]
    | str _ => simp [PyData.eqv]
    | tuple _ => simp [PyData.eqv]
    | dict _ => simp [PyData.eqv]
  | n + 1, m, .tuple xs, e, h, k => by
    have h : xs.all (pl n) = true := by simpa only [pl] using h
    cases e with
    | tuple ys =>
      cases m with
      | zero => simp [pl] at k
      | succ m =>
        have k : ys.all (pl m) = true := by simpa only [pl] using k
        have := eqv_all (fun d e => pl_eqv (n := n) (m := m) d e) h k
        simp only [PyData.eqv, this, PyData.tuple.injEq]
    | none => simp [PyData.eqv]
    | bool _ => simp [PyData.eqv]
    | int _ => simp [PyData.eqv]
    | str _ => simp [PyData.eqv]
    | list _ => simp [PyData.eqv]
    | dict _ => simp [PyData.eqv]
theorem eqv_self {n : Nat} {d : D} (h : pl n d = true) : PyData.eqv d d = true := (pl_eqv d d h h).mpr rfl
theorem eqv_dec {n m : Nat} {d e : D} (h : pl n d = true) (k : pl m e = true) {p : Prop} [Decidable p] (hp : d = e ↔ p) : PyData.eqv d e = decide p := by
  have a := pl_eqv d e h k
  by_cases q : p
  · rw [decide_eq_true q]
    exact a.mpr (hp.mpr q)
  · rw [decide_eq_false q]
    cases z : PyData.eqv d e with
    | false => rfl
    | true => exact absurd (hp.mp (a.mp z)) q
theorem pl_map {α : Type} {n : Nat} {f : α → D} (h : ∀ a, pl n (f a) = true) (l : List α) : pl (n + 1) (.list (l.map f)) = true := by
  simp only [pl]
  rw [List.all_map, List.all_eq_true]
  exact fun a _ => h a
theorem pl_pd (p : Pt) : pl 1 (pd p) = true := rfl
theorem pl_prs (l : List Pt) : pl 2 (.list (prs l)) = true := pl_map pl_pd l
theorem pl_ints (l : List Int) : pl 1 (.list (l.map .int)) = true := pl_map (fun _ => rfl) l
theorem shaped_prs {l : List Pt} : SeqAt.shaped (.list (prs l)) = true := pl_shaped (pl_prs l) (by decide)
theorem shaped_ints {l : List Int} : SeqAt.shaped (.list (l.map .int)) = true := pl_shaped (pl_ints l) (by decide)
theorem eqv_prs {l : List Pt} : PyData.eqv (.list (prs l)) (.list (prs l)) = true := eqv_self (pl_prs l)
theorem pd_inj {p q : Pt} : pd p = pd q ↔ p = q := by
  constructor
  · intro h
    injection h with h
    injection h with h1 h2
    injection h2 with h2 _
    injection h1 with h1
    injection h2 with h2
    exact Prod.ext h1 h2
  · rintro rfl
    rfl
theorem map_inj {α : Type} {f : α → D} (h : ∀ a b, f a = f b ↔ a = b) {l m : List α} : PyData.list (l.map f) = PyData.list (m.map f) ↔ l = m := by
  constructor
  · intro e
    injection e with e
    exact (List.map_inj_right fun a b => (h a b).mp).mp e
  · rintro rfl
    rfl
theorem int_inj {a b : Int} : PyData.int a = PyData.int b ↔ a = b := ⟨fun h => by injection h, fun h => by rw [h]⟩
theorem eqv_pd (p q : Pt) : PyData.eqv (pd p) (pd q) = decide (p = q) := eqv_dec (pl_pd p) (pl_pd q) pd_inj
theorem eqv_prs' (l m : List Pt) : PyData.eqv (.list (prs l)) (.list (prs m)) = decide (l = m) := eqv_dec (pl_prs l) (pl_prs m) (map_inj fun _ _ => pd_inj)
theorem eqv_ints (l m : List Int) : PyData.eqv (.list (l.map .int)) (.list (m.map .int)) = decide (l = m) := eqv_dec (pl_ints l) (pl_ints m) (map_inj fun _ _ => int_inj)
theorem eqv_int' (a b : Int) : PyData.eqv (.int a) (.int b) = decide (a = b) := eqv_dec (n := 0) (m := 0) rfl rfl int_inj
theorem brNe {x y : Int} {p q : Prop} (h1 : x ≠ y → p) (h2 : x = y → q) : br (!PyData.eqv (.int x) (.int y)) p q := by
  rw [eqv_int']
  by_cases h : x = y
  · exact brF (by simp [h]) (h2 h)
  · exact brT (by simp [h]) (h1 h)
theorem brEq {x y : Int} {p q : Prop} (h1 : x = y → p) (h2 : x ≠ y → q) : br (PyData.eqv (.int x) (.int y)) p q := by
  rw [eqv_int']
  by_cases h : x = y
  · exact brT (by simp [h]) (h1 h)
  · exact brF (by simp [h]) (h2 h)
/-- floor division: what is left is less -/
theorem fdiv_rest (x : Int) {y : Int} (h : y ≠ 0) : (x - x.fdiv y * y).natAbs < y.natAbs ∧ (x.fdiv y).natAbs ≤ x.natAbs + y.natAbs := by
  have key : ∀ x y : Int, 0 < y → (x - x.fdiv y * y).natAbs < y.natAbs ∧ (x.fdiv y).natAbs ≤ x.natAbs + y.natAbs := by
    intro x y hy
    rw [fdiv_pos hy]
    have e := Int.emod_def x y
    have h1 := Int.emod_nonneg x (show y ≠ 0 by omega)
    have h2 := Int.emod_lt_of_pos x hy
    have e2 : x - x / y * y = x % y := by rw [e, Int.mul_comm]
    refine ⟨by rw [e2]; omega, ?_⟩
    have := Int.natAbs_ediv_le_natAbs x y
    omega
  by_cases hy : 0 < y
  · exact key x y hy
  · have := key (-x) (-y) (by omega)
    rw [Int.neg_fdiv_neg] at this
    rw [Int.mul_neg] at this
    omega
theorem all_up {n m : Nat} (ih : ∀ d, pl n d = true → pl m d = true) : ∀ {xs : List D}, xs.all (pl n) = true → xs.all (pl m) = true
  | [], _ => rfl
  | x :: xs, h => by
    rw [List.all_cons, Bool.and_eq_true] at h ⊢
    exact ⟨ih x h.1, all_up ih h.2⟩
theorem pl_up : ∀ {n m : Nat} {d : D}, n ≤ m → pl n d = true → pl m d = true
  | _, m, .none, _, _ => by cases m <;> rfl
  | _, m, .int _, _, _ => by cases m <;> rfl
  | _, m, .str x, _, h => by simp only [pl] at h ⊢; exact h
  | _, _, .bool _, _, h => by simp [pl] at h
  | _, _, .dict _, _, h => by simp [pl] at h
  | 0, _, .list _, _, h => by simp [pl] at h
  | 0, _, .tuple _, _, h => by simp [pl] at h
  | n + 1, 0, _, l, _ => absurd l (by omega)
  | n + 1, m + 1, .list xs, l, h => by
    simp only [pl] at h ⊢
    exact all_up (fun d => pl_up (n := n) (m := m) (d := d) (by omega)) h
  | n + 1, m + 1, .tuple xs, l, h => by
    simp only [pl] at h ⊢
    exact all_up (fun d => pl_up (n := n) (m := m) (d := d) (by omega)) h
theorem pl_tup {n : Nat} {xs : List D} (h : ∀ x ∈ xs, pl n x = true) : pl (n + 1) (.tuple xs) = true := by
  simp only [pl]
  exact List.all_eq_true.mpr h
theorem pl_lst {n : Nat} {xs : List D} (h : ∀ x ∈ xs, pl n x = true) : pl (n + 1) (.list xs) = true := by
  simp only [pl]
  exact List.all_eq_true.mpr h
theorem brNeD {n m : Nat} {d e : D} {p q : Prop} (k : pl n d = true) (l : pl m e = true) (h1 : d ≠ e → p) (h2 : d = e → q) : br (!PyData.eqv d e) p q := by
  have z := pl_eqv d e k l
  cases h : PyData.eqv d e with
  | true => exact h2 (z.mp h)
  | false => exact h1 fun w => by rw [z.mpr w] at h; cases h
theorem brEqD {n m : Nat} {d e : D} {p q : Prop} (k : pl n d = true) (l : pl m e = true) (h1 : d = e → p) (h2 : d ≠ e → q) : br (PyData.eqv d e) p q := by
  have z := pl_eqv d e k l
  cases h : PyData.eqv d e with
  | true => exact h1 (z.mp h)
  | false => exact h2 fun w => by rw [z.mpr w] at h; cases h
/-- a thing is no other than itself -/
theorem brNeS {n : Nat} {d : D} {p q : Prop} (k : pl n d = true) (h : q) : br (!PyData.eqv d d) p q := brNeD k k (fun z => absurd rfl z) fun _ => h
theorem brEqS {n : Nat} {d : D} {p q : Prop} (k : pl n d = true) (h : p) : br (PyData.eqv d d) p q := brEqD k k (fun _ => h) fun z => absurd rfl z
theorem brNeI {x y : Int} {p q : Prop} (e : x = y) (h : q) : br (!PyData.eqv (.int x) (.int y)) p q := brNe (fun z => absurd e z) fun _ => h
/-- one step of a comprehension, the slots as they were -/
theorem lc_go {ss : Srcs} {vs : List Nat} {g : TgD} {tt : TtD} {te : TeD} {P : PostE} {x : D} {xs acc : List D} {ρ : Rho} (acc2 : List D)
    (h : ∀ k : List D → Rho → Prop, k acc2 ρ → noOwn ρ vs ∧ acc.length < 1000000 ∧ g x (wipeD ρ vs) (fun ρ1 => tt ρ1 (fun b ρ2 =>
      br b (te ρ2 (fun r ρ3 => onSome (fz ρ3 r) fun p => srcOk ss (unwipe ρ p.2 vs) ∧ k (acc ++ [p.1]) (unwipe ρ p.2 vs)) noX)
        (srcOk ss (unwipe ρ ρ2 vs) ∧ k acc (unwipe ρ ρ2 vs))) noX))
    (hn : lcD ss vs g tt te P xs acc2 ρ) : lcD ss vs g tt te P (x :: xs) acc ρ := h (lcD ss vs g tt te P xs) hn
end RR

namespace RR
open PySem PySem.Spec L2
/-! ### once round -/
abbrev Ps (p q : Pt) : Prop := 0 < cr p q
/-- v lies from a on, ahead of b -/
def hb (v a b : Pt) : Nat := if 0 ≤ cr a v ∧ 0 < cr v b then 1 else 0
/-- v lies behind a, b with it -/
def hb' (v a b : Pt) : Nat := if 0 < cr a v ∧ 0 ≤ cr v b then 1 else 0
/-- how often v is passed on the way from a through l to b -/
def cn (v : Pt) : Pt → List Pt → Pt → Nat
  | a, [], b => hb v a b
  | a, x :: l, b => hb v a x + cn v x l b
def cn' (v : Pt) : Pt → List Pt → Pt → Nat
  | a, [], b => hb' v a b
  | a, x :: l, b => hb' v a x + cn' v x l b
theorem cn_append {v : Pt} : ∀ {l m : List Pt} {a x b : Pt}, cn v a (l ++ x :: m) b = cn v a l x + cn v x m b
  | [], m, a, x, b => rfl
  | y :: l, m, a, x, b => by
    show hb v a y + cn v y (l ++ x :: m) b = hb v a y + cn v y l x + cn v x m b
    rw [cn_append, Nat.add_assoc]
/-- how often a round passes v -/
def cnt (v : Pt) : List Pt → Nat
  | [] => 0
  | a :: l => cn v a l a
theorem cnt_rot {v : Pt} {l m : List Pt} : cnt v (l ++ m) = cnt v (m ++ l) := by
  cases l with
  | nil => rw [List.append_nil]; rfl
  | cons a l =>
    cases m with
    | nil => rw [List.append_nil]; rfl
    | cons b m =>
      show cn v a (l ++ b :: m) a = cn v b (m ++ a :: l) b
      rw [cn_append, cn_append, Nat.add_comm]
def Once (l : List Pt) : Prop := ∀ v : Pt, v ≠ (0, 0) → cnt v l = 1
theorem once_rot {l m : List Pt} (h : Once (l ++ m)) : Once (m ++ l) := fun v hv => by rw [cnt_rot]; exact h v hv
theorem cr_mid (a m b v : Pt) : cr a b * cr m v = cr m b * cr a v - cr a m * cr v b := by
  unfold cr
  grind
theorem hb_split {v a m b : Pt} (h1 : Ps a m) (h2 : Ps m b) (h3 : Ps a b) : hb v a b = hb v a m + hb v m b := by
  have e := cr_mid a m b v
  have en : cr v m = - cr m v := cr_neg m v
  unfold Ps at h1 h2 h3
  unfold hb
  rw [en]
  generalize cr a b = D at *
  generalize cr m v = r at *
  generalize cr m b = be at *
  generalize cr a v = p at *
  generalize cr a m = al at *
  generalize cr v b = q at *
  have s1 : 0 ≤ p → 0 ≤ be * p := fun h => Int.mul_nonneg (by omega) h
  have s2 : p < 0 → be * p < 0 := fun h => Int.mul_neg_of_pos_of_neg h2 h
  have s3 : 0 < q → 0 < al * q := fun h => Int.mul_pos h1 h
  have s4 : q ≤ 0 → al * q ≤ 0 := fun h => by
    have := Int.mul_nonneg (show 0 ≤ al by omega) (show 0 ≤ -q by omega)
    rw [Int.mul_neg] at this
    omega
  have s5 : 0 ≤ r → 0 ≤ D * r := fun h => Int.mul_nonneg (by omega) h
  have s6 : r < 0 → D * r < 0 := fun h => Int.mul_neg_of_pos_of_neg h3 h
  by_cases hp : 0 ≤ p <;> by_cases hq : 0 < q <;> by_cases hr : 0 ≤ r
  · rw [if_pos ⟨hp, hq⟩, if_neg (by omega), if_pos ⟨hr, hq⟩]
  · rw [if_pos ⟨hp, hq⟩, if_pos (by omega), if_neg (by omega)]
  · rw [if_neg (by omega), if_neg (by omega), if_neg (by omega)]
  · exfalso
    have := s1 hp; have := s4 (by omega); have := s6 (by omega); omega
  · exfalso
    have := s2 (by omega); have := s3 hq; have := s5 hr; omega
  · rw [if_neg (by omega), if_neg (by omega), if_neg (by omega)]
  · rw [if_neg (by omega), if_neg (by omega), if_neg (by omega)]
  · rw [if_neg (by omega), if_neg (by omega), if_neg (by omega)]
/-- a ray put in within a wedge, or taken out of it -/
theorem cnt_put {v a m b : Pt} {l r : List Pt} (h1 : Ps a m) (h2 : Ps m b) (h3 : Ps a b) : cnt v (l ++ a :: m :: b :: r) = cnt v (l ++ a :: b :: r) := by
  rw [cnt_rot (l := l), cnt_rot (l := l)]
  show hb v a m + (hb v m b + cn v b (r ++ l) a) = hb v a b + cn v b (r ++ l) a
  rw [hb_split h1 h2 h3, Nat.add_assoc]
theorem cnt_put_end {v a m b : Pt} {l : List Pt} (h1 : Ps a m) (h2 : Ps m b) (h3 : Ps a b) : cnt v (b :: l ++ [a, m]) = cnt v (b :: l ++ [a]) := by
  rw [cnt_rot (l := b :: l), cnt_rot (l := b :: l)]
  show hb v a m + (hb v m b + cn v b l a) = hb v a b + cn v b l a
  rw [hb_split h1 h2 h3, Nat.add_assoc]
/-! ### led by a table -/
theorem cn_map {f : Pt → Pt} (hf : ∀ p q, cr (f p) (f q) = cr p q) {v : Pt} : ∀ {l : List Pt} {a b : Pt}, cn (f v) (f a) (l.map f) (f b) = cn v a l b
  | [], a, b => by
    show hb _ _ _ = hb _ _ _
    unfold hb
    rw [hf, hf]
  | x :: l, a, b => by
    show hb (f v) (f a) (f x) + cn (f v) (f x) (l.map f) (f b) = hb v a x + cn v x l b
    rw [cn_map hf]
    unfold hb
    rw [hf, hf]
theorem once_map {f g : Pt → Pt} (hf : ∀ p q, cr (f p) (f q) = cr p q) (hg : ∀ p, f (g p) = p) (h0 : f (0, 0) = (0, 0)) {l : List Pt} (h : Once l) : Once (l.map f) := by
  intro v hv
  have e : cnt (f (g v)) (l.map f) = cnt (g v) l := by
    cases l with
    | nil => rfl
    | cons a l => exact cn_map hf
  rw [hg] at e
  rw [e]
  refine h _ fun z => hv ?_
  rw [← hg v, z, h0]
theorem cn_rev {v : Pt} {f : Pt → Pt} (hf : ∀ p q, cr (f p) (f q) = - cr p q) : ∀ {l : List Pt} {a b : Pt}, cn (f v) (f b) (l.map f).reverse (f a) = cn' v a l b
  | [], a, b => by
    show hb _ _ _ = hb' _ _ _
    unfold hb hb'
    rw [hf, hf, ← cr_neg, ← cr_neg]
    by_cases h : 0 < cr a v ∧ 0 ≤ cr v b
    · rw [if_pos h, if_pos ⟨h.2, h.1⟩]
    · rw [if_neg h, if_neg fun z => h ⟨z.2, z.1⟩]
  | x :: l, a, b => by
    rw [List.map_cons, List.reverse_cons]
    rw [cn_append (l := (l.map f).reverse) (m := []) (x := f x)]
    show cn (f v) (f b) (l.map f).reverse (f x) + hb (f v) (f x) (f a) = hb' v a x + cn' v x l b
    rw [cn_rev hf, Nat.add_comm]
    congr 1
    unfold hb hb'
    rw [hf, hf, ← cr_neg, ← cr_neg]
    by_cases h : 0 < cr a v ∧ 0 ≤ cr v x
    · rw [if_pos h, if_pos ⟨h.2, h.1⟩]
    · rw [if_neg h, if_neg fun z => h ⟨z.2, z.1⟩]
def dt (p q : Pt) : Int := p.1 * q.1 + p.2 * q.2
def on_ (v a : Pt) : Nat := if cr a v = 0 ∧ 0 < dt a v then 1 else 0
theorem dt_id (a b v : Pt) : dt a a * cr v b = dt a v * cr a b - cr a v * dt a b := by
  unfold dt cr
  grind
theorem dt_pos {a b : Pt} (h : 0 < cr a b) : 0 < dt a a ∧ 0 < dt b b := by
  have sq : ∀ x : Int, 0 ≤ x * x := fun x => by
    rcases Int.le_total 0 x with h | h
    · exact Int.mul_nonneg h h
    · have := Int.mul_nonneg (show 0 ≤ -x by omega) (show 0 ≤ -x by omega)
      rwa [Int.neg_mul_neg] at this
  have z : ∀ x y : Int, x * x + y * y = 0 → x = 0 ∧ y = 0 := fun x y e => by
    have := sq x
    have := sq y
    have h1 : x * x = 0 := by omega
    have h2 : y * y = 0 := by omega
    exact ⟨(Int.mul_eq_zero.mp h1).elim id id, (Int.mul_eq_zero.mp h2).elim id id⟩
  have key : ∀ p : Pt, p ≠ (0, 0) → 0 < dt p p := fun p hp => by
    have h1 := sq p.1
    have h2 := sq p.2
    have : dt p p ≠ 0 := fun e => hp (by
      obtain ⟨e1, e2⟩ := z p.1 p.2 e
      exact Prod.ext e1 e2)
    unfold dt at *
    omega
  constructor
  · refine key a fun e => ?_
    rw [e] at h
    unfold cr at h
    simp at h
  · refine key b fun e => ?_
    rw [e] at h
    unfold cr at h
    simp at h
theorem sgn_mul {a b c d : Int} (ha : 0 < a) (hd : 0 < d) (e : a * b = c * d) : 0 < b ↔ 0 < c := by
  constructor
  · intro h
    have h1 := Int.mul_pos ha h
    by_cases hc : 0 < c
    · exact hc
    · exfalso
      have := Int.mul_nonneg (show 0 ≤ -c by omega) (show 0 ≤ d by omega)
      rw [Int.neg_mul] at this
      omega
  · intro h
    have h1 := Int.mul_pos h hd
    by_cases hb : 0 < b
    · exact hb
    · exfalso
      have := Int.mul_nonneg (show 0 ≤ a by omega) (show 0 ≤ -b by omega)
      rw [Int.mul_neg] at this
      omega
theorem on_a {v a b : Pt} (h : Ps a b) (z : cr a v = 0) : 0 < cr v b ↔ 0 < dt a v := by
  refine sgn_mul (dt_pos h).1 h ?_
  have := dt_id a b v
  rw [z, Int.zero_mul, Int.sub_zero] at this
  exact this
theorem on_b {v a b : Pt} (h : Ps a b) (z : cr b v = 0) : 0 < cr a v ↔ 0 < dt b v := by
  refine sgn_mul (dt_pos h).2 h ?_
  have := dt_id b a v
  rw [z, Int.zero_mul, Int.sub_zero, cr_neg a v, cr_neg a b, Int.mul_neg, Int.mul_neg] at this
  omega
theorem hb_on {v a b : Pt} (h : Ps a b) : hb v a b + on_ v b = hb' v a b + on_ v a := by
  have ea := on_a (v := v) h
  have eb := on_b (v := v) h
  have n1 : cr v b = - cr b v := cr_neg b v
  unfold hb hb' on_
  rw [n1] at ea ⊢
  by_cases h1 : cr a v = 0 <;> by_cases h2 : cr b v = 0
  · have ea := ea h1
    have eb := eb h2
    have q1 : ¬ 0 < dt b v := fun z => by have := eb.mpr z; omega
    have q2 : ¬ 0 < dt a v := fun z => by have := ea.mpr z; omega
    rw [if_neg (by omega), if_neg (by omega), if_neg (by omega), if_neg (by omega)]
  · have ea := ea h1
    rw [if_neg (c := cr b v = 0 ∧ _) (by omega), if_neg (c := 0 < cr a v ∧ _) (by omega)]
    by_cases h3 : 0 < dt a v
    · rw [if_pos ⟨by omega, ea.mpr h3⟩, if_pos ⟨h1, h3⟩]
    · rw [if_neg (fun z => h3 (ea.mp z.2)), if_neg (fun z => h3 z.2)]
  · have eb := eb h2
    rw [if_neg (c := 0 ≤ cr a v ∧ _) (by omega), if_neg (c := cr a v = 0 ∧ _) (by omega)]
    by_cases h3 : 0 < dt b v
    · rw [if_pos ⟨h2, h3⟩, if_pos ⟨eb.mpr h3, by omega⟩]
    · rw [if_neg (fun z => h3 z.2), if_neg (fun z => h3 (eb.mp z.1))]
  · rw [if_neg (c := cr b v = 0 ∧ _) (by omega), if_neg (c := cr a v = 0 ∧ _) (by omega)]
    by_cases h3 : 0 < cr a v ∧ 0 < - cr b v
    · rw [if_pos ⟨by omega, h3.2⟩, if_pos ⟨h3.1, by omega⟩]
    · rw [if_neg (by omega), if_neg (by omega)]
theorem cn_on {v : Pt} : ∀ {l : List Pt} {a b : Pt}, Ch Ps a l b → cn v a l b + on_ v b = cn' v a l b + on_ v a
  | [], a, b, h => hb_on h
  | x :: l, a, b, h => by
    have h1 := hb_on (v := v) h.1
    have h2 := cn_on (v := v) h.2
    show hb v a x + cn v x l b + on_ v b = hb' v a x + cn' v x l b + on_ v a
    omega
theorem once_rev {f g : Pt → Pt} (hf : ∀ p q, cr (f p) (f q) = - cr p q) (hg : ∀ p, f (g p) = p) (h0 : f (0, 0) = (0, 0)) {l : List Pt} (hp : Cyc Ps l) (h : Once l) : Once (l.map f).reverse := by
  intro v hv
  have e : cnt (f (g v)) (l.map f).reverse = cnt (g v) l := by
    cases l with
    | nil => rfl
    | cons a l =>
      rw [List.map_cons, List.reverse_cons, cnt_rot]
      show cn (f (g v)) (f a) (l.map f).reverse (f a) = cn (g v) a l a
      rw [cn_rev hf]
      have := cn_on (v := g v) hp
      omega
  rw [hg] at e
  rw [e]
  refine h _ fun z => hv ?_
  rw [← hg v, z, h0]
/-- a table of determinant 1 or -1 has its contrary -/
theorem ld_back {a b c d s : Int} (hs : a * d - b * c = s) (h : s * s = 1) (p : Pt) : ld a b c d (ld (s * d) (-(s * b)) (-(s * c)) (s * a) p) = p := by
  unfold ld
  refine Prod.ext ?_ ?_
  · show a * (s * d * p.1 + -(s * b) * p.2) + b * (-(s * c) * p.1 + s * a * p.2) = p.1
    have : a * (s * d * p.1 + -(s * b) * p.2) + b * (-(s * c) * p.1 + s * a * p.2) = s * (a * d - b * c) * p.1 := by grind
    rw [this, hs, h, Int.one_mul]
  · show c * (s * d * p.1 + -(s * b) * p.2) + d * (-(s * c) * p.1 + s * a * p.2) = p.2
    have : c * (s * d * p.1 + -(s * b) * p.2) + d * (-(s * c) * p.1 + s * a * p.2) = s * (a * d - b * c) * p.2 := by grind
    rw [this, hs, h, Int.one_mul]
theorem ld_zero {a b c d : Int} : ld a b c d (0, 0) = (0, 0) := by
  unfold ld
  simp
theorem once_ld {a b c d : Int} (h : a * d - b * c = 1) {l : List Pt} (k : Once l) : Once (l.map (ld a b c d)) :=
  once_map (fun p q => by rw [cr_ld, h, Int.one_mul]) (ld_back h (by decide)) ld_zero k
theorem once_ld_rev {a b c d : Int} (h : a * d - b * c = -1) {l : List Pt} (hp : Cyc Ps l) (k : Once l) : Once (l.map (ld a b c d)).reverse :=
  once_rev (fun p q => by rw [cr_ld, h, Int.neg_mul, Int.one_mul]) (ld_back h (by decide)) ld_zero hp k
theorem cyc_imp {R T : Pt → Pt → Prop} (h : ∀ p q, R p q → T p q) {l : List Pt} (k : Cyc R l) : Cyc T l := by
  have := cyc_map (f := fun p => p) h k
  rwa [List.map_id'] at this
theorem smooth_pos {l : List Pt} (h : Smooth l) : Cyc Ps l := cyc_imp (fun p q e => by unfold Uni at e; unfold Ps; omega) h
end RR

namespace RR
open PySem PySem.Spec L2
/-! ### wedges parted least: the mathematics -/
def sc (k : Int) (p : Pt) : Pt := (k * p.1, k * p.2)
def sb (p q : Pt) : Pt := (p.1 - q.1, p.2 - q.2)
/-- a primitive pair -/
abbrev Pr (p : Pt) : Prop := Int.gcd p.1 p.2 = 1
/-- q parts the wedge: v and q times u come to n times a pair -/
def Opn (u v : Pt) (q : Int) : Prop := 0 ≤ q ∧ q < cr u v ∧ cr u v ∣ v.1 + q * u.1 ∧ cr u v ∣ v.2 + q * u.2
theorem pr_dvd {u : Pt} (h : Pr u) {n d : Int} (h1 : n ∣ d * u.1) (h2 : n ∣ d * u.2) : n ∣ d := by
  have := Int.dvd_coe_gcd h1 h2
  rw [Int.gcd_mul_left, h, Nat.mul_one] at this
  exact Int.dvd_natAbs.mp this
theorem small_dvd {n d : Int} (h : n ∣ d) (h1 : -n < d) (h2 : d < n) : d = 0 := by
  obtain ⟨k, rfl⟩ := h
  by_cases hk : k = 0
  · rw [hk, Int.mul_zero]
  · exfalso
    rcases Int.lt_or_gt_of_ne hk with z | z
    · have := Int.mul_le_mul_of_nonneg_left (show k ≤ -1 by omega) (show 0 ≤ n by omega)
      rw [Int.mul_neg, Int.mul_one] at this
      omega
    · have := Int.mul_le_mul_of_nonneg_left (show 1 ≤ k by omega) (show 0 ≤ n by omega)
      rw [Int.mul_one] at this
      omega
theorem opn_unique {u v : Pt} {q q' : Int} (hu : Pr u) (h : Opn u v q) (k : Opn u v q') : q = q' := by
  obtain ⟨h0, h1, h2, h3⟩ := h
  obtain ⟨k0, k1, k2, k3⟩ := k
  have e1 := Int.dvd_sub h2 k2
  have e2 := Int.dvd_sub h3 k3
  rw [show v.1 + q * u.1 - (v.1 + q' * u.1) = (q - q') * u.1 by grind] at e1
  rw [show v.2 + q * u.2 - (v.2 + q' * u.2) = (q - q') * u.2 by grind] at e2
  have := small_dvd (pr_dvd hu e1 e2) (by omega) (by omega)
  omega
theorem opn_of {u v : Pt} {a b : Int} (hn : 0 < cr u v) (h : a * u.1 + b * u.2 = 1) : Opn u v ((0 - a * v.1 - b * v.2) % cr u v) := by
  refine ⟨Int.emod_nonneg _ (by omega), Int.emod_lt_of_pos _ hn, ?_, ?_⟩
  · have e := Int.emod_def (0 - a * v.1 - b * v.2) (cr u v)
    rw [e]
    refine ⟨-b - (0 - a * v.1 - b * v.2) / cr u v * u.1, ?_⟩
    generalize (0 - a * v.1 - b * v.2) / cr u v = d
    unfold cr
    grind
  · have e := Int.emod_def (0 - a * v.1 - b * v.2) (cr u v)
    rw [e]
    refine ⟨a - (0 - a * v.1 - b * v.2) / cr u v * u.2, ?_⟩
    generalize (0 - a * v.1 - b * v.2) / cr u v = d
    unfold cr
    grind
open Classical in
noncomputable def qq (u v : Pt) : Int := if h : ∃ q, Opn u v q then Classical.choose h else 0
theorem qq_of {u v : Pt} {q : Int} (hu : Pr u) (h : Opn u v q) : qq u v = q := by
  unfold qq
  have e : ∃ q, Opn u v q := ⟨q, h⟩
  rw [dif_pos e]
  exact opn_unique hu (Classical.choose_spec e) h
/-- the first ray between -/
noncomputable def hh (u v : Pt) : Pt := ((v.1 + qq u v * u.1) / cr u v, (v.2 + qq u v * u.2) / cr u v)
theorem hh_mul {u v : Pt} {q : Int} (hu : Pr u) (h : Opn u v q) : sc (cr u v) (hh u v) = (v.1 + q * u.1, v.2 + q * u.2) := by
  unfold hh sc
  rw [qq_of hu h]
  exact Prod.ext (Int.mul_ediv_cancel' h.2.2.1) (Int.mul_ediv_cancel' h.2.2.2)
theorem mul_can {n a b : Int} (hn : 0 < n) (h : n * a = n * b) : a = b := Int.eq_of_mul_eq_mul_left (by omega) h
theorem hh_cr {u v : Pt} {q : Int} (hu : Pr u) (h : Opn u v q) : cr u (hh u v) = 1 ∧ cr (hh u v) v = q := by
  have hn : 0 < cr u v := by have := h.1; have := h.2.1; omega
  have e := hh_mul hu h
  have e1 : cr u v * (hh u v).1 = v.1 + q * u.1 := congrArg Prod.fst e
  have e2 : cr u v * (hh u v).2 = v.2 + q * u.2 := congrArg Prod.snd e
  constructor
  · apply mul_can hn
    have : cr u v * cr u (hh u v) = u.1 * (cr u v * (hh u v).2) - u.2 * (cr u v * (hh u v).1) := by
      generalize hh u v = w
      unfold cr
      grind
    rw [this, e1, e2]
    unfold cr
    grind
  · apply mul_can hn
    have : cr u v * cr (hh u v) v = (cr u v * (hh u v).1) * v.2 - (cr u v * (hh u v).2) * v.1 := by
      generalize hh u v = w
      unfold cr
      grind
    rw [this, e1, e2]
    unfold cr
    grind
/-! the row -/
theorem hj_dec {n q : Int} (h : 0 < q) : (q - 1 - (n + q - 1) % q).toNat < q.toNat := by
  have := Int.emod_nonneg (n + q - 1) (show q ≠ 0 by omega)
  omega
def hj (n q : Int) : List Int := if h : 0 < q then (n + q - 1) / q :: hj q (q - 1 - (n + q - 1) % q) else []
termination_by q.toNat
decreasing_by exact hj_dec h
theorem hj_pos {n q : Int} (h : 0 < q) : hj n q = (n + q - 1) / q :: hj q (q - 1 - (n + q - 1) % q) := by
  rw [hj, dif_pos h]
theorem hj_nil {n q : Int} (h : ¬ 0 < q) : hj n q = [] := by
  rw [hj, dif_neg h]
theorem hj_next {n q : Int} : (n + q - 1) / q * q - n = q - 1 - (n + q - 1) % q := by
  have := Int.emod_def (n + q - 1) q
  rw [Int.mul_comm] at this
  omega
theorem hj_rng {n q : Int} (h : 0 < q) : 0 ≤ q - 1 - (n + q - 1) % q ∧ q - 1 - (n + q - 1) % q < q := by
  have h1 := Int.emod_nonneg (n + q - 1) (show q ≠ 0 by omega)
  have h2 := Int.emod_lt_of_pos (n + q - 1) h
  omega
theorem hj_ge {n q : Int} (h : 0 < q) (hn : q < n) : 2 ≤ (n + q - 1) / q := by
  have : 2 * q ≤ n + q - 1 := by omega
  exact (Int.le_ediv_iff_mul_le h).mpr this
theorem hj_two : ∀ {n q : Int}, 0 ≤ q → q < n → ∀ k ∈ hj n q, 2 ≤ k := by
  have : ∀ (m : Nat) (n q : Int), q.toNat ≤ m → 0 ≤ q → q < n → ∀ k ∈ hj n q, 2 ≤ k := by
    intro m
    induction m with
    | zero =>
      intro n q hm h0 hn k hk
      rw [hj_nil (by omega)] at hk
      simp at hk
    | succ m ih =>
      intro n q hm h0 hn k hk
      by_cases h : 0 < q
      · rw [hj_pos h] at hk
        obtain ⟨r0, r1⟩ := hj_rng (n := n) h
        rcases List.mem_cons.mp hk with rfl | hk
        · exact hj_ge h hn
        · exact ih q _ (by omega) r0 r1 k hk
      · rw [hj_nil h] at hk
        simp at hk
  intro n q h0 hn
  exact this q.toNat n q (Nat.le_refl _) h0 hn
theorem hj_len : ∀ {n q : Int}, ((hj n q).length : Int) ≤ max q 0 := by
  have : ∀ (m : Nat) (n q : Int), q.toNat ≤ m → ((hj n q).length : Int) ≤ max q 0 := by
    intro m
    induction m with
    | zero =>
      intro n q hm
      rw [hj_nil (by omega)]
      simp
      omega
    | succ m ih =>
      intro n q hm
      by_cases h : 0 < q
      · rw [hj_pos h]
        obtain ⟨r0, r1⟩ := hj_rng (n := n) h
        have := ih q (q - 1 - (n + q - 1) % q) (by omega)
        rw [List.length_cons]
        omega
      · rw [hj_nil h]
        simp
        omega
  intro n q
  exact this q.toNat n q (Nat.le_refl _)
/-- the rays: here, behind it what the numbers tell -/
def mid : Pt → Pt → List Int → List Pt
  | _, _, [] => []
  | a, h, k :: ks => h :: mid h (sb (sc k h) a) ks
theorem mid_len : ∀ {ks : List Int} {a h : Pt}, (mid a h ks).length = ks.length
  | [], _, _ => rfl
  | k :: ks, a, h => by
    show (h :: mid h (sb (sc k h) a) ks).length = _
    rw [List.length_cons, mid_len, List.length_cons]
/-- each ray so many times is its two neighbours together -/
def Sums : Pt → List Pt → Pt → List Int → Prop
  | _, [], _, [] => True
  | a, r :: rs, v, k :: ks => sm a (rs.headD v) = sc k r ∧ Sums r rs v ks
  | _, _, _, _ => False
theorem basis {a h : Pt} (e : cr a h = 1) (v : Pt) : v = sb (sc (cr a v) h) (sc (cr h v) a) := by
  unfold sb sc
  unfold cr at *
  refine Prod.ext ?_ ?_
  · show v.1 = (a.1 * v.2 - a.2 * v.1) * h.1 - (h.1 * v.2 - h.2 * v.1) * a.1
    have : v.1 * (a.1 * h.2 - a.2 * h.1) = (a.1 * v.2 - a.2 * v.1) * h.1 - (h.1 * v.2 - h.2 * v.1) * a.1 := by grind
    rw [← this, e, Int.mul_one]
  · show v.2 = (a.1 * v.2 - a.2 * v.1) * h.2 - (h.1 * v.2 - h.2 * v.1) * a.2
    have : v.2 * (a.1 * h.2 - a.2 * h.1) = (a.1 * v.2 - a.2 * v.1) * h.2 - (h.1 * v.2 - h.2 * v.1) * a.2 := by grind
    rw [← this, e, Int.mul_one]
theorem pr_sc {k : Int} {h : Pt} (p : Pr (sc k h)) (hk : 0 < k) : k = 1 := by
  unfold Pr sc at p
  have p : Int.gcd (k * h.1) (k * h.2) = 1 := p
  rw [Int.gcd_mul_left] at p
  have := Nat.eq_one_of_mul_eq_one_right p
  omega
theorem last_eq {a h v : Pt} (e : cr a h = 1) (z : cr h v = 0) (hn : 0 < cr a v) (hv : Pr v) : h = v ∧ cr a v = 1 := by
  have b := basis e v
  rw [z] at b
  have b2 : v = sc (cr a v) h := by
    refine b.trans ?_
    unfold sb sc
    simp
  have n1 : cr a v = 1 := pr_sc (by rw [← b2]; exact hv) hn
  refine ⟨?_, n1⟩
  rw [n1] at b2
  rw [b2]
  unfold sc
  simp
theorem cr_step (k : Int) (a h v : Pt) : cr (sb (sc k h) a) v = k * cr h v - cr a v := by
  unfold cr sb sc
  show (k * h.1 - a.1) * v.2 - (k * h.2 - a.2) * v.1 = k * (h.1 * v.2 - h.2 * v.1) - (a.1 * v.2 - a.2 * v.1)
  grind
theorem cr_step' (k : Int) (a h : Pt) : cr h (sb (sc k h) a) = cr a h := by
  unfold cr sb sc
  show h.1 * (k * h.2 - a.2) - h.2 * (k * h.1 - a.1) = a.1 * h.2 - a.2 * h.1
  grind
theorem sm_step (k : Int) (a h : Pt) : sm a (sb (sc k h) a) = sc k h := by
  unfold sm sb sc
  refine Prod.ext ?_ ?_
  · show a.1 + (k * h.1 - a.1) = k * h.1
    omega
  · show a.2 + (k * h.2 - a.2) = k * h.2
    omega
theorem mid_head {h n v : Pt} {ks : List Int} (hk : ks = [] → n = v) : (mid h n ks).headD v = n := by
  cases ks with
  | nil => exact (hk rfl).symm
  | cons k ks => rfl
/-- the chain -/
theorem mid_ch : ∀ (m : Nat) (n q : Int) (a h v : Pt), q.toNat ≤ m → cr a h = 1 → cr a v = n → cr h v = q → 0 ≤ q → 0 < n → Pr v → Ch Uni a (mid a h (hj n q)) v ∧ Sums a (mid a h (hj n q)) v (hj n q) ∧ (hj n q = [] → h = v) := by
  intro m
  induction m with
  | zero =>
    intro n q a h v hm e hn hq q0 n0 hv
    obtain ⟨l1, l2⟩ := last_eq e (by omega) (by omega) hv
    rw [hj_nil (by omega)]
    exact ⟨l2, trivial, fun _ => l1⟩
  | succ m ih =>
    intro n q a h v hm e hn hq q0 n0 hv
    by_cases hp : 0 < q
    · rw [hj_pos hp]
      obtain ⟨r0, r1⟩ := hj_rng (n := n) hp
      have c1 := cr_step ((n + q - 1) / q) a h v
      rw [hn, hq, hj_next] at c1
      have c2 := (cr_step' ((n + q - 1) / q) a h).trans e
      obtain ⟨i1, i2, i3⟩ := ih q _ h (sb (sc ((n + q - 1) / q) h) a) v (by omega) c2 hq c1 r0 hp hv
      refine ⟨⟨e, i1⟩, ⟨?_, i2⟩, fun z => by simp at z⟩
      rw [mid_head i3]
      exact sm_step _ a h
    · obtain ⟨l1, l2⟩ := last_eq e (by omega) (by omega) hv
      rw [hj_nil hp]
      exact ⟨l2, trivial, fun _ => l1⟩
/-- the rays between, their numbers -/
noncomputable def btw (u v : Pt) : List Pt := mid u (hh u v) (hj (cr u v) (qq u v))
noncomputable def rowW (u v : Pt) : List Int := hj (cr u v) (qq u v)
structure Wdg (u v : Pt) : Prop where
  pu : Pr u
  pv : Pr v
  pos : 0 < cr u v
theorem bez : ∀ (m : Nat) (x y : Int), y.natAbs ≤ m → Int.gcd x y = 1 → ∃ a b : Int, a * x + b * y = 1 := by
  intro m
  induction m with
  | zero =>
    intro x y hm hg
    have : y = 0 := by omega
    subst this
    have : x = 1 ∨ x = -1 := by simp at hg; omega
    rcases this with rfl | rfl
    · exact ⟨1, 0, by omega⟩
    · exact ⟨-1, 0, by omega⟩
  | succ m ih =>
    intro x y hm hg
    by_cases hy : y = 0
    · subst hy
      have : x = 1 ∨ x = -1 := by simp at hg; omega
      rcases this with rfl | rfl
      · exact ⟨1, 0, by omega⟩
      · exact ⟨-1, 0, by omega⟩
    · have h1 := Int.emod_nonneg x hy
      have h2 := Int.emod_lt x hy
      have hg' : Int.gcd y (x % y) = 1 := by
        rw [Int.gcd_comm] at hg
        rw [← hg]
        have e : x % y = x - y * (x / y) := Int.emod_def x y
        rw [e, Int.gcd_sub_mul_left_right]
      obtain ⟨a, b, e⟩ := ih y (x % y) (by omega) hg'
      refine ⟨b, a - b * (x / y), ?_⟩
      rw [Int.emod_def] at e
      rw [← e]
      generalize x / y = d
      grind
theorem Wdg.opn {u v : Pt} (w : Wdg u v) : Opn u v (qq u v) := by
  obtain ⟨a, b, e⟩ := bez _ u.1 u.2 (Nat.le_refl _) w.pu
  have := opn_of w.pos e
  rw [qq_of w.pu this]
  exact this
theorem btw_ch {u v : Pt} (w : Wdg u v) : Ch Uni u (btw u v) v ∧ Sums u (btw u v) v (rowW u v) ∧ (rowW u v = [] → hh u v = v) := by
  have o := w.opn
  obtain ⟨c1, c2⟩ := hh_cr w.pu o
  exact mid_ch _ _ _ u (hh u v) v (Nat.le_refl _) c1 rfl c2 o.1 w.pos w.pv
theorem row_two {u v : Pt} (w : Wdg u v) : ∀ k ∈ rowW u v, 2 ≤ k := hj_two w.opn.1 w.opn.2.1
theorem btw_len {u v : Pt} : (btw u v).length = (rowW u v).length := mid_len
/-! just one -/
theorem hj_of {n q k q' : Int} (h0 : 0 ≤ q') (h1 : q' < q) (e : n = k * q - q') : hj n q = k :: hj q q' := by
  have hq : 0 < q := by omega
  have e1 : n + q - 1 = (q - 1 - q') + q * k := by rw [Int.mul_comm q k]; omega
  have a1 : (n + q - 1) / q = k := by
    rw [e1, Int.add_mul_ediv_left _ _ (by omega), Int.ediv_eq_zero_of_lt (by omega) (by omega), Int.zero_add]
  have a2 : (n + q - 1) % q = q - 1 - q' := by
    rw [e1, Int.add_mul_emod_self_left, Int.emod_eq_of_lt (by omega) (by omega)]
  rw [hj_pos hq, a1, a2]
  congr 2
  omega
theorem cr_self (p : Pt) : cr p p = 0 := by
  unfold cr
  rw [Int.mul_comm]
  omega
theorem sums_cr {a r n v : Pt} {k : Int} (h : sm a n = sc k r) : cr a v = k * cr r v - cr n v := by
  have h1 : a.1 + n.1 = k * r.1 := congrArg Prod.fst h
  have h2 : a.2 + n.2 = k * r.2 := congrArg Prod.snd h
  unfold cr
  have : a.1 * v.2 - a.2 * v.1 = (a.1 + n.1) * v.2 - (a.2 + n.2) * v.1 - (n.1 * v.2 - n.2 * v.1) := by grind
  rw [this, h1, h2]
  grind
theorem chain_dec : ∀ {rs : List Pt} {a r v : Pt} {ks : List Int}, Ch Uni a (r :: rs) v → Sums a (r :: rs) v ks → (∀ k ∈ ks, 2 ≤ k) → 0 < cr r v ∧ cr r v < cr a v
  | [], a, r, v, [], _, h, _ => h.elim
  | [], a, r, v, k :: ks, c, h, h2 => by
    have k2 := h2 k (by simp)
    have e := sums_cr (v := v) h.1
    have u : cr r v = 1 := c.2
    rw [show ([] : List Pt).headD v = v from rfl, cr_self, u] at e
    rw [u]
    omega
  | r2 :: rs, a, r, v, [], _, h, _ => h.elim
  | r2 :: rs, a, r, v, k :: ks, c, h, h2 => by
    have k2 := h2 k (by simp)
    obtain ⟨i1, i2⟩ := chain_dec c.2 h.2 fun k hk => h2 k (by simp [hk])
    have e := sums_cr (v := v) h.1
    rw [show (r2 :: rs).headD v = r2 from rfl] at e
    refine ⟨by omega, ?_⟩
    have := Int.mul_le_mul_of_nonneg_right k2 (show 0 ≤ cr r v by omega)
    omega
theorem sums_next {a r n : Pt} {k : Int} (h : sm a n = sc k r) : n = sb (sc k r) a := by
  rw [← h]
  unfold sm sb
  refine Prod.ext ?_ ?_
  · show n.1 = a.1 + n.1 - a.1
    omega
  · show n.2 = a.2 + n.2 - a.2
    omega
theorem chain_mid : ∀ {rs : List Pt} {a r v : Pt} {ks : List Int}, Ch Uni a (r :: rs) v → Sums a (r :: rs) v ks → (∀ k ∈ ks, 2 ≤ k) → r :: rs = mid a r (hj (cr a v) (cr r v)) ∧ ks = hj (cr a v) (cr r v)
  | [], a, r, v, [], _, h, _ => h.elim
  | [], a, r, v, [k], c, h, h2 => by
    have e := sums_cr (v := v) h.1
    have u : cr r v = 1 := c.2
    rw [show ([] : List Pt).headD v = v from rfl, cr_self] at e
    rw [hj_of (k := k) (q' := 0) (by omega) (by omega) e, hj_nil (by omega)]
    exact ⟨rfl, rfl⟩
  | [], a, r, v, _ :: _ :: _, _, h, _ => h.2.elim
  | r2 :: rs, a, r, v, [], _, h, _ => h.elim
  | r2 :: rs, a, r, v, k :: ks, c, h, h2 => by
    obtain ⟨d1, d2⟩ := chain_dec c.2 h.2 fun k hk => h2 k (by simp [hk])
    obtain ⟨i1, i2⟩ := chain_mid c.2 h.2 fun k hk => h2 k (by simp [hk])
    have e := sums_cr (v := v) h.1
    have nx := sums_next h.1
    rw [show (r2 :: rs).headD v = r2 from rfl] at e nx
    rw [hj_of (k := k) (q' := cr r2 v) (by omega) d2 e]
    refine ⟨?_, by rw [i2]⟩
    show r :: r2 :: rs = r :: mid r (sb (sc k r) a) (hj (cr r v) (cr r2 v))
    rw [← nx, i1]
theorem btw_uniq {u v : Pt} (w : Wdg u v) {rs : List Pt} {ks : List Int} (hc : Ch Uni u rs v) (hs : Sums u rs v ks) (h2 : ∀ k ∈ ks, 2 ≤ k) : rs = btw u v ∧ ks = rowW u v := by
  cases rs with
  | nil =>
    have e : cr u v = 1 := hc
    have o := w.opn
    have := o.1
    have := o.2.1
    unfold btw rowW
    rw [hj_nil (by omega)]
    cases ks with
    | nil => exact ⟨rfl, rfl⟩
    | cons k ks => exact hs.elim
  | cons r rs =>
    obtain ⟨d1, d2⟩ := chain_dec hc hs h2
    have b := basis hc.1 v
    have b1 : v.1 + cr r v * u.1 = cr u v * r.1 := by
      have : v.1 = cr u v * r.1 - cr r v * u.1 := congrArg Prod.fst b
      omega
    have b2 : v.2 + cr r v * u.2 = cr u v * r.2 := by
      have : v.2 = cr u v * r.2 - cr r v * u.2 := congrArg Prod.snd b
      omega
    have o : Opn u v (cr r v) := ⟨by omega, d2, ⟨r.1, b1⟩, ⟨r.2, b2⟩⟩
    have eq := qq_of w.pu o
    have eh : hh u v = r := by
      have e := hh_mul w.pu o
      rw [b1, b2] at e
      refine Prod.ext (mul_can w.pos (congrArg Prod.fst e)) (mul_can w.pos (congrArg Prod.snd e))
    unfold btw rowW
    rw [eq, eh]
    exact chain_mid hc hs h2
/-! where they lie -/
theorem cr_step2 (k : Int) (u a h : Pt) : cr u (sb (sc k h) a) = k * cr u h - cr u a := by
  unfold cr sb sc
  show u.1 * (k * h.2 - a.2) - u.2 * (k * h.1 - a.1) = k * (u.1 * h.2 - u.2 * h.1) - (u.1 * a.2 - u.2 * a.1)
  grind
theorem plucker (u a h v : Pt) : cr a h * cr u v = cr u h * cr a v - cr u a * cr h v := by
  unfold cr
  grind
theorem mid_in : ∀ (m : Nat) (u a h v : Pt), (cr h v).toNat ≤ m → cr a h = 1 → 0 ≤ cr u a → cr u a < cr u h → 0 ≤ cr h v → cr h v < cr a v → ∀ r ∈ mid a h (hj (cr a v) (cr h v)), 0 < cr u r ∧ 0 < cr r v ∧ cr u r + cr r v ≤ cr u v := by
  intro m
  induction m with
  | zero =>
    intro u a h v hm e p0 p1 q0 q1 r hr
    rw [hj_nil (by omega)] at hr
    simp [mid] at hr
  | succ m ih =>
    intro u a h v hm e p0 p1 q0 q1 r hr
    by_cases hp : 0 < cr h v
    · rw [hj_pos hp] at hr
      obtain ⟨r0, r1⟩ := hj_rng (n := cr a v) hp
      have k2 := hj_ge hp q1
      have c1 := cr_step ((cr a v + cr h v - 1) / cr h v) a h v
      rw [hj_next] at c1
      have c2 := (cr_step' ((cr a v + cr h v - 1) / cr h v) a h).trans e
      have c3 := cr_step2 ((cr a v + cr h v - 1) / cr h v) u a h
      rcases List.mem_cons.mp hr with rfl | hr
      · refine ⟨by omega, hp, ?_⟩
        have pl := plucker u a r v
        rw [e, Int.one_mul] at pl
        have s1 := Int.mul_le_mul_of_nonneg_left (show cr r v + 1 ≤ cr a v by omega) (show 0 ≤ cr u r by omega)
        have s2 := Int.mul_le_mul_of_nonneg_right (show cr u a ≤ cr u r - 1 by omega) (show 0 ≤ cr r v by omega)
        rw [Int.mul_add, Int.mul_one] at s1
        rw [Int.sub_mul, Int.one_mul] at s2
        omega
      · rw [← c1] at hr
        refine ih u h (sb (sc ((cr a v + cr h v - 1) / cr h v) h) a) v (by omega) c2 (by omega) ?_ (by omega) (by omega) r hr
        have := Int.mul_le_mul_of_nonneg_right k2 (show 0 ≤ cr u h by omega)
        omega
    · rw [hj_nil hp] at hr
      simp [mid] at hr
theorem btw_in {u v : Pt} (w : Wdg u v) : ∀ r ∈ btw u v, 0 < cr u r ∧ 0 < cr r v ∧ cr u r + cr r v ≤ cr u v := by
  have o := w.opn
  obtain ⟨c1, c2⟩ := hh_cr w.pu o
  have := mid_in _ u u (hh u v) v (Nat.le_refl _) c1 (by rw [cr_self]; omega) (by rw [cr_self, c1]; omega) (by rw [c2]; exact o.1) (by rw [c2]; exact o.2.1)
  rw [c2] at this
  exact this
theorem abs_comb {n x p q a b M : Int} (hn : 0 < n) (e : n * x = q * a + p * b) (hp : 0 ≤ p) (hq : 0 ≤ q) (h : p + q ≤ n) (ha : (a.natAbs : Int) ≤ M) (hb : (b.natAbs : Int) ≤ M) : (x.natAbs : Int) ≤ M := by
  have a1 := Int.mul_le_mul_of_nonneg_left (show a ≤ M by omega) hq
  have a2 := Int.mul_le_mul_of_nonneg_left (show -M ≤ a by omega) hq
  have b1 := Int.mul_le_mul_of_nonneg_left (show b ≤ M by omega) hp
  have b2 := Int.mul_le_mul_of_nonneg_left (show -M ≤ b by omega) hp
  have s := Int.mul_le_mul_of_nonneg_right h (show 0 ≤ M by omega)
  rw [Int.mul_neg] at a2 b2
  rw [Int.add_mul] at s
  have u1 : n * x ≤ n * M := by omega
  have u2 : n * (-M) ≤ n * x := by rw [Int.mul_neg]; omega
  have := Int.le_of_mul_le_mul_left u1 hn
  have := Int.le_of_mul_le_mul_left u2 hn
  omega
def In (M : Int) (p : Pt) : Prop := (p.1.natAbs : Int) ≤ M ∧ (p.2.natAbs : Int) ≤ M
theorem mix (u r v : Pt) : sc (cr u v) r = (cr r v * u.1 + cr u r * v.1, cr r v * u.2 + cr u r * v.2) := by
  unfold sc cr
  refine Prod.ext ?_ ?_
  · show (u.1 * v.2 - u.2 * v.1) * r.1 = (r.1 * v.2 - r.2 * v.1) * u.1 + (u.1 * r.2 - u.2 * r.1) * v.1
    grind
  · show (u.1 * v.2 - u.2 * v.1) * r.2 = (r.1 * v.2 - r.2 * v.1) * u.2 + (u.1 * r.2 - u.2 * r.1) * v.2
    grind
theorem in_mix {u r v : Pt} {M : Int} (h1 : 0 ≤ cr u r) (h2 : 0 ≤ cr r v) (hn : 0 < cr u v) (h3 : cr u r + cr r v ≤ cr u v) (hu : In M u) (hv : In M v) : In M r := by
  have m := mix u r v
  have m1 : cr u v * r.1 = cr r v * u.1 + cr u r * v.1 := congrArg Prod.fst m
  have m2 : cr u v * r.2 = cr r v * u.2 + cr u r * v.2 := congrArg Prod.snd m
  exact ⟨abs_comb hn m1 h1 h2 h3 hu.1 hv.1, abs_comb hn m2 h1 h2 h3 hu.2 hv.2⟩
theorem btw_bd {u v : Pt} {M : Int} (w : Wdg u v) (hu : In M u) (hv : In M v) : ∀ r ∈ btw u v, In M r := fun r hr => by
  obtain ⟨h1, h2, h3⟩ := btw_in w r hr
  exact in_mix (by omega) (by omega) w.pos h3 hu hv
theorem hj_le : ∀ (m : Nat) (n q : Int), q.toNat ≤ m → 0 ≤ q → q < n → ∀ k ∈ hj n q, k ≤ n + q := by
  intro m
  induction m with
  | zero =>
    intro n q hm h0 hn k hk
    rw [hj_nil (by omega)] at hk
    simp at hk
  | succ m ih =>
    intro n q hm h0 hn k hk
    by_cases h : 0 < q
    · rw [hj_pos h] at hk
      obtain ⟨r0, r1⟩ := hj_rng (n := n) h
      rcases List.mem_cons.mp hk with rfl | hk
      · have := Int.ediv_le_self (a := n + q - 1) q (by omega)
        omega
      · have := ih q _ (by omega) r0 r1 k hk
        omega
    · rw [hj_nil h] at hk
      simp at hk
theorem row_le {u v : Pt} (w : Wdg u v) : ∀ k ∈ rowW u v, k ≤ 2 * cr u v := fun k hk => by
  have o := w.opn
  have := hj_le _ _ _ (Nat.le_refl _) o.1 o.2.1 k hk
  have := o.2.1
  omega
end RR

namespace RR
open PySem PySem.Spec L2
abbrev Big (x : Int) : Prop := Bd 10000 x
theorem Big.ok {x y : Int} (h : Big x) (k : Big y) : mulOk x y := mulOk_bd h k (by decide)
theorem pickI {ns : List Int} {p : Int → Prop} {r : Int} (r0 : 0 ≤ r) (r1 : r < ns.length) (hp : ∀ n ∈ ns, p n) : ∃ n, p n ∧ atI (ns.map PyData.int) r = some (.int n) := by
  obtain ⟨n, hn, e⟩ := atI_ints r0 r1
  exact ⟨n, hp n hn, e⟩
theorem log_le {m b : Int} (h0 : 0 < m) (h : m ≤ b) (hb : b < 2 ^ 60) : m.natAbs.log2 < 9000 := by
  have : Bd 60 m := Bd.of_le (b := b) (by omega) hb
  exact Nat.lt_of_le_of_lt this.log (by decide)
end RR

namespace RR
open PySem PySem.Spec L2
/-! ### turnings -/
abbrev tt (a b c d : Int) : D := .tuple [pr a b, pr c d]
def oneB (x : Int) : Bool := ([PyData.int 1, PyData.int (-1)]).any fun d => PyData.eqv d (.int x)
theorem oneB_iff {x : Int} : oneB x = true ↔ x = 1 ∨ x = -1 := by
  show ((1 == x) || ((-1 == x) || false)) = true ↔ _
  rw [Bool.or_false, Bool.or_eq_true, beq_iff_eq, beq_iff_eq]
  exact ⟨fun h => by omega, fun h => by omega⟩
def turnB : D → Bool
  | .tuple [.tuple [.int a, .int b], .tuple [.int c, .int d]] => oneB (a * d - b * c)
  | _ => false
def okT (d : D) : Prop := ∀ a b c e, d = tt a b c e → Big a ∧ Big b ∧ Big c ∧ Big e
theorem turnB_two {x y : D} (h : ¬ (pairB x = true ∧ pairB y = true)) : turnB (.tuple [x, y]) = false := by
  unfold turnB
  split
  · rename_i e
    cases e
    exact absurd ⟨rfl, rfl⟩ h
  · rfl
def sp_spans : SpD := fun ws P _ => ∃ a b c d : Int, ws = [.val (pr a b), .val (pr c d)] ∧ Big a ∧ Big b ∧ Big c ∧ Big d ∧ P (.val (.bool (oneB (a * d - b * c)))) ws
theorem len_spans : ∀ ws Q E, sp_spans ws Q E → ws.length = 2 := by
  rintro ws Q E ⟨a, b, c, d, rfl, _⟩
  rfl
def N_spans : List Str := ["one", "other"]
def t_spans : TsD :=
  (tRetD (tOp2 (gInT false) (tCallD [] sp_crossed (tConsF (tVar 0) (tConsF (tVar 1) tNilA))) (tTupD (tConsF (tK (.int 1)) (tConsF (tOp1 gNeg (tK (.int 1))) tNilA)))))
theorem vc_spans : ∀ ws Q E, sp_spans ws Q E → t_spans (endsOf [] ws Q E) (startD N_spans ws) := by
  rintro ws Q E ⟨a, b, c, d, rfl, ha, hb, hc, hd, h⟩
  refine ⟨a, b, c, d, rfl, ha.ok hd, hb.ok hc, rfl, rfl, ?_⟩
  show Q (.val (.bool (xor false (oneB (a * d - b * c))))) _
  rw [Bool.false_xor]
  exact h
theorem turnB_len {xs : List D} (h : xs.length ≠ 2) : turnB (.tuple xs) = false := by
  unfold turnB
  split
  · rename_i e
    cases e
    exact absurd rfl h
  · rfl
def sp_is_turning : SpD := fun ws P _ => ∃ d, ws = [.val d] ∧ okT d ∧ P (.val (.bool (turnB d))) ws
theorem len_is_turning : ∀ ws Q E, sp_is_turning ws Q E → ws.length = 1 := by
  rintro ws Q E ⟨d, rfl, _⟩
  rfl
def N_is_turning : List Str := ["thing"]
def t_is_turning : TsD :=
  (tSeqD (tIfD (tOrT (tNotT (tTst (tOp1 (gIsI "tuple") (tVar 0)))) (tOrT (tTst (tOp2 gNe (tBlt gLen (tConsV (tVar 0) tNilA)) (tK (.int 2)))) (tOrT (tNotT (tTst (tCallD [] sp_is_pair (tConsF (tOp2 gIx (tVar 0) (tK (.int 0))) tNilA)))) (tNotT (tTst (tCallD [] sp_is_pair (tConsF (tOp2 gIx (tVar 0) (tK (.int 1))) tNilA))))))) (tRetD (tK (.bool false))) tNextD)
  (tRetD (tCallD [] sp_spans (tConsF (tOp2 gIx (tVar 0) (tK (.int 0))) (tConsF (tOp2 gIx (tVar 0) (tK (.int 1))) tNilA)))))
theorem vc_is_turning : ∀ ws Q E, sp_is_turning ws Q E → t_is_turning (endsOf [] ws Q E) (startD N_is_turning ws) := by
  rintro ws Q E ⟨d, rfl, ok, h⟩
  cases d with
  | tuple xs =>
    match xs, h, ok with
    | [], h, ok => exact ⟨rfl, rfl, h⟩
    | [x], h, ok =>
      rw [turnB_len (by simp)] at h
      exact ⟨rfl, rfl, h⟩
    | [x, y], h, ok =>
      refine ⟨rfl, rfl, _, rfl, brB (fun h1 => ?_) (fun h1 => ?_)⟩
      · rw [turnB_two (fun z => by simp [z.1] at h1)] at h
        exact h
      · refine ⟨_, rfl, brB (fun h2 => ?_) (fun h2 => ?_)⟩
        · rw [turnB_two (fun z => by simp [z.2] at h2)] at h
          exact h
        · obtain ⟨a, b, rfl⟩ := pairB_ints (by simpa using h1)
          obtain ⟨c, e, rfl⟩ := pairB_ints (by simpa using h2)
          obtain ⟨ha, hb, hc, he⟩ := ok a b c e rfl
          exact ⟨a, b, c, e, rfl, ha, hb, hc, he, h⟩
    | x :: y :: z :: r, h, ok =>
      rw [turnB_len (by simp)] at h
      exact ⟨rfl, rfl, h⟩
  | none => exact h
  | bool b => exact h
  | int b => exact h
  | str b => exact h
  | list b => exact h
  | dict b => exact h
def sp_turned : SpD := fun ws P _ => ∃ a b c d x y : Int, ws = [.val (tt a b c d), .val (pr x y)] ∧ Big a ∧ Big b ∧ Big c ∧ Big d ∧ Big x ∧ Big y ∧ ∀ u v, u = a * x + b * y → v = c * x + d * y → P (.val (pr u v)) ws
theorem len_turned : ∀ ws Q E, sp_turned ws Q E → ws.length = 2 := by
  rintro ws Q E ⟨a, b, c, d, x, y, rfl, _⟩
  rfl
def N_turned : List Str := ["turning", "pair", "first", "second"]
def t_turned : TsD :=
  (tSeqD (tAsgD (tVar 0) (gTupD 2 (gsConsD (gNameD 2) (gsConsD (gNameD 3) gsNilD))))
  (tRetD (tTupD (tConsF (tOp2 gAdd (tOp2 gMul (tOp2 gIx (tVar 2) (tK (.int 0))) (tOp2 gIx (tVar 1) (tK (.int 0)))) (tOp2 gMul (tOp2 gIx (tVar 2) (tK (.int 1))) (tOp2 gIx (tVar 1) (tK (.int 1))))) (tConsF (tOp2 gAdd (tOp2 gMul (tOp2 gIx (tVar 3) (tK (.int 0))) (tOp2 gIx (tVar 1) (tK (.int 0)))) (tOp2 gMul (tOp2 gIx (tVar 3) (tK (.int 1))) (tOp2 gIx (tVar 1) (tK (.int 1))))) tNilA)))))
theorem vc_turned : ∀ ws Q E, sp_turned ws Q E → t_turned (endsOf [] ws Q E) (startD N_turned ws) := by
  rintro ws Q E ⟨a, b, c, d, x, y, rfl, ha, hb, hc, hd, hx, hy, h⟩
  exact ⟨ha.ok hx, hb.ok hy, hc.ok hx, hd.ok hy, h _ _ rfl rfl⟩
def sp_then : SpD := fun ws P _ => ∃ a b c d e f g k : Int, ws = [.val (tt a b c d), .val (tt e f g k)] ∧ Big a ∧ Big b ∧ Big c ∧ Big d ∧ Big e ∧ Big f ∧ Big g ∧ Big k ∧
  ∀ p q r s, p = e * a + f * c → q = e * b + f * d → r = g * a + k * c → s = g * b + k * d → P (.val (tt p q r s)) ws
theorem len_then : ∀ ws Q E, sp_then ws Q E → ws.length = 2 := by
  rintro ws Q E ⟨a, b, c, d, e, f, g, k, rfl, _⟩
  rfl
def N_then : List Str := ["one", "other", "columns"]
def t_then : TsD :=
  (tSeqD (tSetF 2 (tLstD (tConsF (tCallD [] sp_turned (tConsF (tVar 1) (tConsF (tCallD [] sp_turned (tConsF (tVar 0) (tConsF (tTupD (tConsF (tK (.int 1)) (tConsF (tK (.int 0)) tNilA))) tNilA))) tNilA))) (tConsF (tCallD [] sp_turned (tConsF (tVar 1) (tConsF (tCallD [] sp_turned (tConsF (tVar 0) (tConsF (tTupD (tConsF (tK (.int 0)) (tConsF (tK (.int 1)) tNilA))) tNilA))) tNilA))) tNilA))))
  (tRetD (tTupD (tConsF (tTupD (tConsF (tOp2 gIx (tOp2 gIx (tVar 2) (tK (.int 0))) (tK (.int 0))) (tConsF (tOp2 gIx (tOp2 gIx (tVar 2) (tK (.int 1))) (tK (.int 0))) tNilA))) (tConsF (tTupD (tConsF (tOp2 gIx (tOp2 gIx (tVar 2) (tK (.int 0))) (tK (.int 1))) (tConsF (tOp2 gIx (tOp2 gIx (tVar 2) (tK (.int 1))) (tK (.int 1))) tNilA))) tNilA)))))
theorem vc_then : ∀ ws Q E, sp_then ws Q E → t_then (endsOf [] ws Q E) (startD N_then ws) := by
  rintro ws Q E ⟨a, b, c, d, e, f, g, k, rfl, ha, hb, hc, hd, he, hf, hg, hk, h⟩
  refine seq_to [some (.val (tt a b c d)), some (.val (tt e f g k)), some (.val (.list [pr (e * a + f * c) (g * a + k * c), pr (e * b + f * d) (g * b + k * d)]))] (fun K hK => ?_) (h _ _ _ _ rfl rfl rfl rfl)
  refine ⟨a, b, c, d, 1, 0, rfl, ha, hb, hc, hd, by decide, by decide, fun u v hu hv => ?_⟩
  obtain rfl : u = a := by omega
  obtain rfl : v = c := by omega
  refine ⟨e, f, g, k, u, v, rfl, he, hf, hg, hk, ha, hc, fun u2 v2 hu2 hv2 => ?_⟩
  subst hu2 hv2
  refine ⟨u, b, v, d, 0, 1, rfl, ha, hb, hc, hd, by decide, by decide, fun u3 v3 hu3 hv3 => ?_⟩
  obtain rfl : u3 = b := by omega
  obtain rfl : v3 = d := by omega
  refine ⟨e, f, g, k, u3, v3, rfl, he, hf, hg, hk, hb, hd, fun u4 v4 hu4 hv4 => ?_⟩
  subst hu4 hv4
  exact hK
def sp_back : SpD := fun ws P _ => ∃ a b c d : Int, ws = [.val (tt a b c d)] ∧ Big a ∧ Big b ∧ Big c ∧ Big d ∧
  ∀ s p q r t, s = a * d - b * c → p = s * d → q = -s * b → r = -s * c → t = s * a → P (.val (tt p q r t)) ws
theorem len_back : ∀ ws Q E, sp_back ws Q E → ws.length = 1 := by
  rintro ws Q E ⟨a, b, c, d, rfl, _⟩
  rfl
def N_back : List Str := ["turning", "first", "second", "sign"]
def t_back : TsD :=
  (tSeqD (tAsgD (tVar 0) (gTupD 2 (gsConsD (gNameD 1) (gsConsD (gNameD 2) gsNilD))))
  (tSeqD (tSetF 3 (tCallD [] sp_crossed (tConsF (tVar 1) (tConsF (tVar 2) tNilA))))
  (tRetD (tTupD (tConsF (tTupD (tConsF (tOp2 gMul (tVar 3) (tOp2 gIx (tVar 2) (tK (.int 1)))) (tConsF (tOp2 gMul (tOp1 gNeg (tVar 3)) (tOp2 gIx (tVar 1) (tK (.int 1)))) tNilA))) (tConsF (tTupD (tConsF (tOp2 gMul (tOp1 gNeg (tVar 3)) (tOp2 gIx (tVar 2) (tK (.int 0)))) (tConsF (tOp2 gMul (tVar 3) (tOp2 gIx (tVar 1) (tK (.int 0)))) tNilA))) tNilA))))))
theorem vc_back : ∀ ws Q E, sp_back ws Q E → t_back (endsOf [] ws Q E) (startD N_back ws) := by
  rintro ws Q E ⟨a, b, c, d, rfl, ha, hb, hc, hd, h⟩
  refine seq_to [some (.val (tt a b c d)), some (.val (pr a b)), some (.val (pr c d)), none] (fun K hK => hK) ?_
  refine seq_to [some (.val (tt a b c d)), some (.val (pr a b)), some (.val (pr c d)), some (.val (.int (a * d - b * c)))] (fun K hK => ⟨a, b, c, d, rfl, ha.ok hd, hb.ok hc, hK⟩) ?_
  have hs : Bd 20001 (a * d - b * c) := (Bd.sub (Bd.mul ha hd) (Bd.mul hb hc)).mono (by decide)
  exact ⟨mulOk_bd hs hd (by decide), mulOk_bd hs.neg hb (by decide), mulOk_bd hs.neg hc (by decide), mulOk_bd hs ha (by decide), h _ _ _ _ _ rfl rfl rfl rfl rfl⟩
end RR

namespace RR
open PySem PySem.Spec L2
def Tn (n : Nat) (d : D) : Prop := ∃ a b c e : Int, d = tt a b c e ∧ (a * e - b * c = 1 ∨ a * e - b * c = -1) ∧ Bd n a ∧ Bd n b ∧ Bd n c ∧ Bd n e
theorem det_mul (a b c d e f g k : Int) : (e * a + f * c) * (g * b + k * d) - (e * b + f * d) * (g * a + k * c) = (e * k - f * g) * (a * d - b * c) := by grind
theorem one_mul' {x y : Int} (h : x = 1 ∨ x = -1) (k : y = 1 ∨ y = -1) : x * y = 1 ∨ x * y = -1 := by
  rcases h with rfl | rfl <;> rcases k with rfl | rfl <;> decide
theorem Bd.two {n m : Nat} {x y z u : Int} (h1 : Bd n x) (h2 : Bd m y) (h3 : Bd n z) (h4 : Bd m u) : Bd (n + m + 1) (x * y + z * u) := (Bd.add (h1.mul h2) (h3.mul h4)).mono (by omega)
theorem four {i : Int} (h0 : 0 ≤ i) (h1 : i < 4) : i = 0 ∨ i = 1 ∨ i = 2 ∨ i = 3 := by omega
theorem three {i : Int} (h0 : 0 ≤ i) (h1 : i < 3) : i = 0 ∨ i = 1 ∨ i = 2 := by omega
theorem tn_one {n : Nat} (h : 1 ≤ n) : Tn n (tt 1 0 0 1) := ⟨1, 0, 0, 1, rfl, .inl rfl, Bd.mono (n := 1) (by decide) h, Bd.mono (n := 1) (by decide) h, Bd.mono (n := 1) (by decide) h, Bd.mono (n := 1) (by decide) h⟩
/-- a turning behind a turning -/
theorem tn_mul {n m : Nat} {a b c e a2 b2 c2 e2 p q r s : Int} (h1 : a * e - b * c = 1 ∨ a * e - b * c = -1) (ha : Bd n a) (hb : Bd n b) (hc : Bd n c) (he : Bd n e) (k : Tn m (tt a2 b2 c2 e2))
    (hp : p = a2 * a + b2 * c) (hq : q = a2 * b + b2 * e) (hr : r = c2 * a + e2 * c) (hs : s = c2 * b + e2 * e) : Tn (m + n + 1) (tt p q r s) := by
  obtain ⟨a2', b2', c2', e2', z, k1, ka, kb, kc, ke⟩ := k
  cases z
  refine ⟨p, q, r, s, rfl, ?_, ?_, ?_, ?_, ?_⟩
  · rw [hp, hq, hr, hs, det_mul]
    exact one_mul' k1 h1
  · rw [hp]; exact ka.two ha kb hc
  · rw [hq]; exact ka.two hb kb he
  · rw [hr]; exact kc.two ha ke hc
  · rw [hs]; exact kc.two hb ke he
theorem tn_up {n : Nat} {x : Int} (hn : 1 ≤ n) (h : Bd n x) : Tn n (tt 1 x 0 1) := ⟨1, x, 0, 1, rfl, .inl (by omega), Bd.mono (n := 1) (by decide) hn, h, Bd.mono (n := 1) (by decide) hn, Bd.mono (n := 1) (by decide) hn⟩
theorem tn_low {n : Nat} {x : Int} (hn : 1 ≤ n) (h : Bd n x) : Tn n (tt 1 0 x 1) := ⟨1, 0, x, 1, rfl, .inl (by omega), Bd.mono (n := 1) (by decide) hn, Bd.mono (n := 1) (by decide) hn, h, Bd.mono (n := 1) (by decide) hn⟩
theorem tn_swap {n : Nat} (hn : 1 ≤ n) : Tn n (tt 0 1 1 0) := ⟨0, 1, 1, 0, rfl, .inr rfl, Bd.mono (n := 1) (by decide) hn, Bd.mono (n := 1) (by decide) hn, Bd.mono (n := 1) (by decide) hn, Bd.mono (n := 1) (by decide) hn⟩
theorem tn_quart {n : Nat} (hn : 1 ≤ n) : Tn n (tt 0 (-1) 1 0) := ⟨0, -1, 1, 0, rfl, .inl rfl, Bd.mono (n := 1) (by decide) hn, Bd.mono (n := 1) (by decide) hn, Bd.mono (n := 1) (by decide) hn, Bd.mono (n := 1) (by decide) hn⟩
theorem Tn.mono {n m : Nat} {d : D} (h : Tn n d) (k : n ≤ m) : Tn m d := by
  obtain ⟨a, b, c, e, rfl, h1, ha, hb, hc, he⟩ := h
  exact ⟨a, b, c, e, rfl, h1, ha.mono k, hb.mono k, hc.mono k, he.mono k⟩
end RR

namespace RR
open PySem PySem.Spec L2
def near (p : Pt) : Bool := decide ((p.1.natAbs : Int) ≤ 200) && decide ((p.2.natAbs : Int) ≤ 200)
def Near (l : List Pt) : Prop := ∀ p ∈ l, near p = true
theorem near_big {p : Pt} (h : near p = true) : Bd 8 p.1 ∧ Bd 8 p.2 := by
  unfold near at h
  rw [Bool.and_eq_true, decide_eq_true_eq, decide_eq_true_eq] at h
  unfold Bd
  omega
theorem cut_at (xs : List D) (i : Int) (h0 : 0 ≤ i) : cutD xs (some i) none = xs.drop i.toNat ∧ cutD xs none (some i) = xs.take i.toNat := by
  obtain ⟨k, rfl⟩ := Int.eq_ofNat_of_zero_le h0
  exact ⟨cut_from xs k, cut_to xs k⟩
/-- a good round -/
def Rnd (l : List Pt) : Prop := Smooth l ∧ Near l ∧ Once l ∧ 3 ≤ l.length ∧ l.length ≤ 14
theorem Near.rot {l : List Pt} (h : Near l) (k : Nat) : Near (l.drop k ++ l.take k) := fun p hp => by
  rcases List.mem_append.mp hp with q | q
  · exact h p (List.mem_of_mem_drop q)
  · exact h p (List.mem_of_mem_take q)
theorem rot_length {α : Type} {l : List α} (k : Nat) : (l.drop k ++ l.take k).length = l.length := by rw [List.length_append, List.length_drop, List.length_take]; omega
theorem Rnd.rot {l : List Pt} (h : Rnd l) (k : Nat) : Rnd (l.drop k ++ l.take k) := by
  have e := rot_length (l := l) k
  exact ⟨cyc_rot (by rw [List.take_append_drop]; exact h.1), h.2.1.rot k, once_rot (by rw [List.take_append_drop]; exact h.2.2.1), by rw [e]; exact h.2.2.2.1, by rw [e]; exact h.2.2.2.2⟩
theorem Rnd.led {l : List Pt} {a b c e : Int} (h : Rnd l) (hd : a * e - b * c = 1) (hN : Near (l.map (ld a b c e))) : Rnd (l.map (ld a b c e)) := by
  refine ⟨cyc_map (R := Uni) (fun p q hpq => ?_) h.1, hN, once_ld hd h.2.2.1, by rw [List.length_map]; exact h.2.2.2.1, by rw [List.length_map]; exact h.2.2.2.2⟩
  show cr (ld a b c e p) (ld a b c e q) = 1
  rw [cr_ld, hpq, hd]
  rfl
theorem Rnd.led_rev {l : List Pt} {a b c e : Int} (h : Rnd l) (hd : a * e - b * c = -1) (hN : Near (l.map (ld a b c e))) : Rnd (l.map (ld a b c e)).reverse := by
  refine ⟨cyc_rev (R := fun p q => cr p q = -1) (fun p q hpq => ?_) (cyc_map (R := Uni) (fun p q hpq => ?_) h.1), fun p hp => hN p (List.mem_reverse.mp hp), once_ld_rev hd (smooth_pos h.1) h.2.2.1, by simp; exact h.2.2.2.1, by simp; exact h.2.2.2.2⟩
  · show cr q p = 1
    rw [cr_neg, hpq]
    rfl
  · show cr (ld a b c e p) (ld a b c e q) = -1
    rw [cr_ld, hpq, hd]
    rfl
theorem rot_own {l : List Pt} {s : Int} (h : 0 ≤ s) : cutD (prs l) (some s) none ++ cutD (prs l) none (some s) = prs (l.drop s.toNat ++ l.take s.toNat) := by
  rw [(cut_at _ s h).1, (cut_at _ s h).2]
  show (l.map pd).drop _ ++ (l.map pd).take _ = List.map pd (l.drop s.toNat ++ l.take s.toNat)
  rw [List.map_append, List.map_drop, List.map_take]
theorem rot_len {l : List Pt} {s : Int} (h : 0 ≤ s) : (cutD (prs l) (some s) none).length + (cutD (prs l) none (some s)).length = l.length := by
  rw [(cut_at _ s h).1, (cut_at _ s h).2, List.length_drop, List.length_take, List.length_map]
  omega
theorem at_prs {l : List Pt} {i : Nat} (h : i < l.length) : atI (prs l) (i : Int) = some (pd l[i]) := atI_nat (by rw [List.getElem?_map, List.getElem?_eq_getElem h]; rfl)
theorem mod_len {l : List Pt} {i : Nat} (h : 0 < l.length) : ((i : Int) + 1).fmod ((prs l).length : Nat) = (((i + 1) % l.length : Nat) : Int) := by
  rw [List.length_map, fmod_pos (by omega), Int.natCast_emod]
  rfl
/-- the round from the place behind i on: i's ray is its last, the next its first -/
theorem rot_next {l : List Pt} {i : Nat} (hi : i < l.length) (h2 : 2 ≤ l.length) (hm : (i + 1) % l.length < l.length) : ∃ m, l.drop (i + 1) ++ l.take (i + 1) = l[(i + 1) % l.length] :: m ++ [l[i]] := by
  obtain ⟨b, m, e1⟩ : ∃ b m, l.drop (i + 1) ++ l.take i = b :: m := by
    have : (l.drop (i + 1) ++ l.take i).length = l.length - 1 := by rw [List.length_append, List.length_drop, List.length_take]; omega
    match l.drop (i + 1) ++ l.take i, this with
    | [], k => simp at k; omega
    | b :: m, _ => exact ⟨_, _, rfl⟩
  have eb : l[(i + 1) % l.length]? = some b := by
    have q : (l.drop (i + 1) ++ l.take i)[0]? = some b := by rw [e1]; rfl
    by_cases hc : i + 1 < l.length
    · rw [List.getElem?_append_left (by rw [List.length_drop]; omega), List.getElem?_drop, Nat.add_zero] at q
      rw [Nat.mod_eq_of_lt hc]
      exact q
    · have hi2 : i + 1 = l.length := by omega
      rw [List.drop_of_length_le (by omega), List.nil_append, List.getElem?_take_of_lt (by omega)] at q
      rw [hi2, Nat.mod_self]
      exact q
  have eb2 : l[(i + 1) % l.length] = b := by
    rw [List.getElem?_eq_getElem hm] at eb
    exact Option.some.inj eb
  refine ⟨m, ?_⟩
  rw [eb2, List.take_succ_eq_append_getElem hi, ← List.append_assoc, e1]
theorem near_put {l : List Pt} (h : Near l) {i : Nat} {p : Pt} (hn : near p = true) : Near (l.take (i + 1) ++ [p] ++ l.drop (i + 1)) := fun q hq => by
  rcases List.mem_append.mp hq with z | z
  · rcases List.mem_append.mp z with z | z
    · exact h q (List.mem_of_mem_take z)
    · rw [List.mem_singleton] at z
      rw [z]
      exact hn
  · exact h q (List.mem_of_mem_drop z)
theorem put_length {α : Type} {l : List α} {i : Nat} {p : α} (hi : i < l.length) : (l.take (i + 1) ++ [p] ++ l.drop (i + 1)).length = l.length + 1 := by
  rw [List.length_append, List.length_append, List.length_take, List.length_drop]
  simp
  omega
theorem pos_put {l : List Pt} {i : Nat} {p : Pt} (h : Cyc Ps l) (hi : i < l.length) (h2 : 2 ≤ l.length) (hm : (i + 1) % l.length < l.length) (h1 : Ps l[i] p) (h3 : Ps p l[(i + 1) % l.length]) : Cyc Ps (l.take (i + 1) ++ [p] ++ l.drop (i + 1)) := by
  obtain ⟨m, e⟩ := rot_next hi h2 hm
  have r1 : Cyc Ps (l[(i + 1) % l.length] :: m ++ [l[i]]) := by rw [← e]; exact cyc_rot (by rw [List.take_append_drop]; exact h)
  have r2 : Cyc Ps (l[i] :: l[(i + 1) % l.length] :: m) := cyc_rot (l := l[(i + 1) % l.length] :: m) (m := [l[i]]) r1
  have r3 : Cyc Ps ([l[i], p] ++ l[(i + 1) % l.length] :: m) := ⟨h1, h3, r2.2⟩
  have r4 : Cyc Ps ([p] ++ (l.drop (i + 1) ++ l.take (i + 1))) := by
    rw [e]
    exact cyc_rot (l := [l[i]]) (m := [p] ++ l[(i + 1) % l.length] :: m) r3
  rw [← List.append_assoc] at r4
  rw [List.append_assoc]
  exact cyc_rot r4
theorem once_put {l : List Pt} {i : Nat} {p : Pt} (h : Once l) (hi : i < l.length) (h2 : 2 ≤ l.length) (hm : (i + 1) % l.length < l.length) (h1 : Ps l[i] p) (h3 : Ps p l[(i + 1) % l.length]) (h4 : Ps l[i] l[(i + 1) % l.length]) : Once (l.take (i + 1) ++ [p] ++ l.drop (i + 1)) := by
  obtain ⟨m, e⟩ := rot_next hi h2 hm
  intro v hv
  rw [List.append_assoc, cnt_rot, List.append_assoc, e]
  have := cnt_put_end (v := v) (l := m) h1 h3 h4
  rw [show [p] ++ (l[(i + 1) % l.length] :: m ++ [l[i]]) = [p] ++ (l[(i + 1) % l.length] :: m ++ [l[i]]) from rfl, cnt_rot (l := [p]), List.append_assoc]
  show cnt v (l[(i + 1) % l.length] :: m ++ [l[i], p]) = 1
  rw [this, ← e, cnt_rot, List.take_append_drop]
  exact h v hv
theorem cyc_at {R : Pt → Pt → Prop} {l : List Pt} (h : Cyc R l) {i : Nat} (hi : i < l.length) (h2 : 2 ≤ l.length) (hm : (i + 1) % l.length < l.length) : R l[i] l[(i + 1) % l.length] := by
  obtain ⟨m, e⟩ := rot_next hi h2 hm
  have r1 : Cyc R (l[(i + 1) % l.length] :: m ++ [l[i]]) := by rw [← e]; exact cyc_rot (by rw [List.take_append_drop]; exact h)
  have r2 : Cyc R (l[i] :: l[(i + 1) % l.length] :: m) := cyc_rot (l := l[(i + 1) % l.length] :: m) (m := [l[i]]) r1
  exact r2.1
theorem rnd_put {l : List Pt} (h : Rnd l) {i : Nat} (hi : i < l.length) (hm : (i + 1) % l.length < l.length) (hn : near (sm l[i] l[(i + 1) % l.length]) = true) (hl : l.length < 14) :
    Rnd (l.take (i + 1) ++ [sm l[i] l[(i + 1) % l.length]] ++ l.drop (i + 1)) := by
  have h2 : 2 ≤ l.length := by have := h.2.2.2.1; omega
  have u := cyc_at h.1 hi h2 hm
  obtain ⟨u1, u2⟩ := uni_sm u
  have p : ∀ {x y : Pt}, Uni x y → Ps x y := fun e => by unfold Uni at e; unfold Ps; omega
  refine ⟨?_, near_put h.2.1 hn, once_put h.2.2.1 hi h2 hm (p u1) (p u2) (p u), by rw [put_length hi]; omega, by rw [put_length hi]; omega⟩
  obtain ⟨m, e⟩ := rot_next hi h2 hm
  have r1 : Smooth (l[(i + 1) % l.length] :: m ++ [l[i]]) := by rw [← e]; exact cyc_rot (by rw [List.take_append_drop]; exact h.1)
  have r2 := smooth_put_end r1
  have r3 : Smooth ([sm l[i] l[(i + 1) % l.length]] ++ (l.drop (i + 1) ++ l.take (i + 1))) := by
    rw [e]
    refine cyc_rot (l := l[(i + 1) % l.length] :: m ++ [l[i]]) (m := [sm l[i] l[(i + 1) % l.length]]) ?_
    rw [List.append_assoc]
    exact r2
  rw [← List.append_assoc] at r3
  rw [List.append_assoc]
  exact cyc_rot r3
theorem once_three : Once [(1, 0), (0, 1), (-1, -1)] := by
  rintro ⟨x, y⟩ hv
  have hv : ¬ (x = 0 ∧ y = 0) := fun z => hv (by rw [z.1, z.2])
  show hb _ _ _ + (hb _ _ _ + hb _ _ _) = 1
  unfold hb cr
  simp only
  split <;> split <;> split <;> omega
theorem once_four (s : Int) : Once [(1, 0), (0, 1), (-1, s), (0, -1)] := by
  rintro ⟨x, y⟩ hv
  have hv : ¬ (x = 0 ∧ y = 0) := fun z => hv (by rw [z.1, z.2])
  show hb _ _ _ + (hb _ _ _ + (hb _ _ _ + hb _ _ _)) = 1
  unfold hb cr
  simp only
  have e1 : x * s = s * x := Int.mul_comm _ _
  have e2 : x = 0 → s * x = 0 := fun z => by rw [z, Int.mul_zero]
  rw [e1]
  generalize s * x = z at *
  split <;> split <;> split <;> split <;> omega
theorem rnd_three : Rnd [(1, 0), (0, 1), (-1, -1)] := ⟨⟨rfl, rfl, rfl⟩, by unfold Near; decide, once_three, by decide, by decide⟩
theorem rnd_four {s : Int} (h0 : 0 ≤ s) (h1 : s ≤ 200) : Rnd [(1, 0), (0, 1), (-1, s), (0, -1)] := by
  refine ⟨⟨rfl, ?_, ?_, rfl⟩, fun p hp => ?_, once_four s, by simp, by simp⟩
  · show 0 * s - 1 * (-1) = 1
    omega
  · show (-1) * (-1) - s * 0 = 1
    omega
  · simp only [List.mem_cons, List.not_mem_nil, or_false] at hp
    rcases hp with rfl | rfl | rfl | rfl
    · decide
    · decide
    · unfold near
      rw [Bool.and_eq_true, decide_eq_true_eq, decide_eq_true_eq]
      show ((-1 : Int).natAbs : Int) ≤ 200 ∧ (s.natAbs : Int) ≤ 200
      omega
    · decide
theorem put_own {l : List Pt} {j : Nat} {p : Pt} : cutD (prs l) none (some ((j : Int) + 1)) ++ [pd p] ++ cutD (prs l) (some ((j : Int) + 1)) none = prs (l.take (j + 1) ++ [p] ++ l.drop (j + 1)) := by
  rw [show ((j : Int) + 1) = ((j + 1 : Nat) : Int) from rfl, cut_from, cut_to]
  show (l.map pd).take _ ++ _ ++ (l.map pd).drop _ = List.map pd (l.take (j + 1) ++ [p] ++ l.drop (j + 1))
  rw [List.map_append, List.map_append, List.map_drop, List.map_take]
  rfl
theorem put_len1 {l : List Pt} {j : Nat} {p : Pt} (h : l.length ≤ 100000) : (cutD (prs l) none (some ((j : Int) + 1))).length + [pd p].length ≤ 1000000 := by
  rw [show ((j : Int) + 1) = ((j + 1 : Nat) : Int) from rfl, cut_to, List.length_take, List.length_map]
  simp
  omega
theorem put_len2 {l : List Pt} {j : Nat} {p : Pt} (h : l.length ≤ 100000) : (cutD (prs l) none (some ((j : Int) + 1)) ++ [pd p]).length + (cutD (prs l) (some ((j : Int) + 1)) none).length ≤ 1000000 := by
  rw [show ((j : Int) + 1) = ((j + 1 : Nat) : Int) from rfl, cut_to, cut_from, List.length_append, List.length_take, List.length_drop, List.length_map]
  simp
  omega
theorem len_ok {l : List Pt} (h : Once l ∧ 3 ≤ l.length ∧ l.length ≤ 14) : 0 < (((prs l).length : Nat) : Int) ∧ (((prs l).length : Nat) : Int).natAbs.log2 < 9000 := by
  have h1 := h.2.1
  have h2 := h.2.2
  rw [List.length_map]
  refine ⟨by omega, ?_⟩
  have : Bd 5 ((l.length : Nat) : Int) := by unfold Bd; omega
  exact Nat.lt_of_le_of_lt this.log (by decide)
/-- the round from the place i on -/
theorem rot_at {l : List Pt} {j : Nat} (hj : j < l.length) (h3 : 3 ≤ l.length) : ∃ nx m pv, l.drop (j + 1) ++ l.take j = nx :: m ++ [pv] ∧ l.drop j ++ l.take j = l[j] :: (nx :: m ++ [pv]) ∧ l[(j + 1) % l.length]? = some nx ∧ l[(j + l.length - 1) % l.length]? = some pv := by
  have hd : l.drop j = l[j] :: l.drop (j + 1) := List.drop_eq_getElem_cons hj
  have hlen : (l.drop (j + 1) ++ l.take j).length = l.length - 1 := by rw [List.length_append, List.length_drop, List.length_take]; omega
  obtain ⟨nx, t, e1⟩ : ∃ nx t, l.drop (j + 1) ++ l.take j = nx :: t := by
    match h : l.drop (j + 1) ++ l.take j, hlen with
    | [], k => simp at k; omega
    | b :: m, _ => exact ⟨_, _, rfl⟩
  have ht : t ≠ [] := fun z => by
    rw [z] at e1
    rw [e1] at hlen
    simp at hlen
    omega
  obtain ⟨m, pv, e2⟩ : ∃ m pv, t = m ++ [pv] := ⟨t.dropLast, t.getLast ht, (List.dropLast_concat_getLast ht).symm⟩
  rw [e2] at e1
  have g0 : (l.drop (j + 1) ++ l.take j)[0]? = some nx := by rw [e1]; rfl
  have gl : (l.drop (j + 1) ++ l.take j)[l.length - 2]? = some pv := by
    have ml : m.length = l.length - 3 := by
      rw [e1] at hlen
      simp at hlen
      omega
    rw [e1, show l.length - 2 = m.length + 1 by omega]
    simp
  refine ⟨nx, m, pv, e1, by rw [hd, List.cons_append, e1]; rfl, ?_, ?_⟩
  · by_cases hc : j + 1 < l.length
    · rw [List.getElem?_append_left (by rw [List.length_drop]; omega), List.getElem?_drop, Nat.add_zero] at g0
      rw [Nat.mod_eq_of_lt hc]
      exact g0
    · have hi2 : j + 1 = l.length := by omega
      rw [List.drop_of_length_le (by omega), List.nil_append, List.getElem?_take_of_lt (by omega)] at g0
      rw [hi2, Nat.mod_self]
      exact g0
  · by_cases hc : j = 0
    · subst hc
      rw [List.take_zero, List.append_nil, List.getElem?_drop] at gl
      rw [Nat.mod_eq_of_lt (by omega)]
      rw [show 0 + l.length - 1 = 0 + 1 + (l.length - 2) by omega]
      exact gl
    · rw [List.getElem?_append_right (by rw [List.length_drop]; omega), List.length_drop, List.getElem?_take_of_lt (by omega)] at gl
      rw [show j + l.length - 1 = (j - 1) + l.length by omega, Nat.add_mod_right, Nat.mod_eq_of_lt (by omega)]
      rw [show l.length - 2 - (l.length - (j + 1)) = j - 1 by omega] at gl
      exact gl
/-- the ray ahead of a place, as l[j - 1] -/
theorem at_prev {l : List Pt} {j : Nat} (hj : j < l.length) {pv : Pt} (h : l[(j + l.length - 1) % l.length]? = some pv) : atI (prs l) ((j : Int) - 1) = some (pd pv) := by
  by_cases hc : j = 0
  · subst hc
    have e : (0 + l.length - 1) % l.length = l.length - 1 := by rw [Nat.mod_eq_of_lt (by omega)]; omega
    rw [e] at h
    have : atI (prs l) (-1) = some (pd pv) := by
      have hl : (prs l).length = l.length := List.length_map _
      unfold atI
      rw [hl]
      have : ixN l.length (-1) = some (l.length - 1) := by
        unfold ixN
        rw [if_neg (by omega), if_pos (by omega)]
        congr 1
        omega
      rw [this]
      show (prs l)[l.length - 1]? = _
      rw [List.getElem?_map, h]
      rfl
    exact this
  · have e : (j + l.length - 1) % l.length = j - 1 := by rw [show j + l.length - 1 = (j - 1) + l.length by omega, Nat.add_mod_right, Nat.mod_eq_of_lt (by omega)]
    rw [e] at h
    rw [show (j : Int) - 1 = ((j - 1 : Nat) : Int) by omega]
    exact atI_nat (by rw [List.getElem?_map, h]; rfl)
/-- any round -/
def Prim (l : List Pt) : Prop := ∀ p ∈ l, Int.gcd p.1 p.2 = 1
def Anyl (l : List Pt) : Prop := Cyc Ps l ∧ Near l ∧ Once l ∧ Prim l ∧ 3 ≤ l.length ∧ l.length ≤ 14
theorem uni_prim {p q : Pt} (h : Uni p q) : Int.gcd p.1 p.2 = 1 ∧ Int.gcd q.1 q.2 = 1 := by
  have one : ∀ (g : Nat), (g : Int) ∣ 1 → g = 1 := fun g k => by
    have := Int.natAbs_dvd_natAbs.mpr k
    simpa using this
  unfold Uni cr at h
  constructor
  · apply one
    rw [← h]
    exact Int.dvd_sub (Int.dvd_mul_of_dvd_left (Int.gcd_dvd_left ..)) (Int.dvd_mul_of_dvd_left (Int.gcd_dvd_right ..))
  · apply one
    rw [← h]
    exact Int.dvd_sub (Int.dvd_mul_of_dvd_right (Int.gcd_dvd_right ..)) (Int.dvd_mul_of_dvd_right (Int.gcd_dvd_left ..))
theorem ch_mem {R : Pt → Pt → Prop} {q : Pt} : ∀ {l : List Pt} {a b : Pt}, Ch R a l b → q ∈ l → ∃ p, R p q
  | [], _, _, _, h => by simp at h
  | x :: l, a, b, k, h => by
    rcases List.mem_cons.mp h with rfl | h
    · exact ⟨_, k.1⟩
    · exact ch_mem k.2 h
theorem ch_last {R : Pt → Pt → Prop} : ∀ {l : List Pt} {a b : Pt}, Ch R a l b → ∃ p, R p b
  | [], a, _, k => ⟨a, k⟩
  | _ :: _, _, _, k => ch_last k.2
theorem cyc_mem {R : Pt → Pt → Prop} {l : List Pt} (h : Cyc R l) {q : Pt} (hq : q ∈ l) : ∃ p, R p q := by
  cases l with
  | nil => simp at hq
  | cons a l =>
    rcases List.mem_cons.mp hq with rfl | hq
    · exact ch_last h
    · exact ch_mem h hq
theorem smooth_prim {l : List Pt} (h : Smooth l) : Prim l := fun q hq => by
  obtain ⟨p, k⟩ := cyc_mem h hq
  exact (uni_prim k).2
theorem Rnd.any {l : List Pt} (h : Rnd l) : Anyl l := ⟨smooth_pos h.1, h.2.1, h.2.2.1, smooth_prim h.1, h.2.2.2⟩
theorem any_put {l : List Pt} {i : Nat} {p : Pt} (h : Anyl l) (hi : i < l.length) (hm : (i + 1) % l.length < l.length) (hn : near p = true) (hp : Int.gcd p.1 p.2 = 1) (hl : l.length < 14) (h1 : Ps l[i] p) (h3 : Ps p l[(i + 1) % l.length]) : Anyl (l.take (i + 1) ++ [p] ++ l.drop (i + 1)) := by
  have h2 : 2 ≤ l.length := by have := h.2.2.2.2.1; omega
  refine ⟨pos_put h.1 hi h2 hm h1 h3, near_put h.2.1 hn, once_put h.2.2.1 hi h2 hm h1 h3 (cyc_at h.1 hi h2 hm), fun q hq => ?_, by rw [put_length hi]; omega, by rw [put_length hi]; omega⟩
  rcases List.mem_append.mp hq with z | z
  · rcases List.mem_append.mp z with z | z
    · exact h.2.2.2.1 q (List.mem_of_mem_take z)
    · rw [List.mem_singleton] at z
      rw [z]
      exact hp
  · exact h.2.2.2.1 q (List.mem_of_mem_drop z)
theorem cyc_out {R : Pt → Pt → Prop} {l : List Pt} {j : Nat} (h : Cyc R l) {x nx pv : Pt} {m : List Pt} (e1 : l.drop (j + 1) ++ l.take j = nx :: m ++ [pv]) (e2 : l.drop j ++ l.take j = x :: (nx :: m ++ [pv])) : R pv x ∧ R x nx ∧ (R pv nx → Cyc R (l.take j ++ l.drop (j + 1))) := by
  have r1 : Cyc R (x :: (nx :: m) ++ [pv]) := by rw [show x :: (nx :: m) ++ [pv] = x :: (nx :: m ++ [pv]) from rfl, ← e2]; exact cyc_rot (by rw [List.take_append_drop]; exact h)
  have r2 : Cyc R (pv :: x :: nx :: m) := cyc_rot (l := x :: nx :: m) (m := [pv]) r1
  refine ⟨r2.1, r2.2.1, fun h3 => ?_⟩
  have r3 : Cyc R ([pv] ++ nx :: m) := ⟨h3, r2.2.2⟩
  have r4 := cyc_rot r3
  rw [← e1] at r4
  exact cyc_rot r4
theorem once_out {l : List Pt} {j : Nat} (h : Once l) {x nx pv : Pt} {m : List Pt} (e1 : l.drop (j + 1) ++ l.take j = nx :: m ++ [pv]) (e2 : l.drop j ++ l.take j = x :: (nx :: m ++ [pv])) (h1 : Ps pv x) (h2 : Ps x nx) (h3 : Ps pv nx) : Once (l.take j ++ l.drop (j + 1)) := fun v hv => by
  rw [cnt_rot, e1, cnt_rot (l := nx :: m)]
  have e3 := cnt_put (v := v) (l := []) (r := m) h1 h2 h3
  show cnt v ([] ++ pv :: nx :: m) = 1
  rw [← e3]
  show cnt v ([pv] ++ x :: nx :: m) = 1
  rw [cnt_rot]
  show cnt v (x :: (nx :: m ++ [pv])) = 1
  rw [← e2, cnt_rot, List.take_append_drop]
  exact h v hv
theorem any_out {l : List Pt} {j : Nat} (h : Anyl l) (hl : 3 < l.length) {x nx pv : Pt} {m : List Pt} (hj : j < l.length) (e1 : l.drop (j + 1) ++ l.take j = nx :: m ++ [pv]) (e2 : l.drop j ++ l.take j = x :: (nx :: m ++ [pv])) (h3 : Ps pv nx) : Anyl (l.take j ++ l.drop (j + 1)) := by
  obtain ⟨c1, c2, c3⟩ := cyc_out h.1 e1 e2
  have hlen : (l.take j ++ l.drop (j + 1)).length = l.length - 1 := by rw [List.length_append, List.length_drop, List.length_take]; omega
  have hm : ∀ q ∈ l.take j ++ l.drop (j + 1), q ∈ l := fun q hq => by
    rcases List.mem_append.mp hq with z | z
    · exact List.mem_of_mem_take z
    · exact List.mem_of_mem_drop z
  have := h.2.2.2.2.2
  exact ⟨c3 h3, fun q hq => h.2.1 q (hm q hq), once_out h.2.2.1 e1 e2 c1 c2 h3, fun q hq => h.2.2.2.1 q (hm q hq), by omega, by omega⟩
theorem Anyl.rot {l : List Pt} (h : Anyl l) (k : Nat) : Anyl (l.drop k ++ l.take k) := by
  have e := rot_length (l := l) k
  refine ⟨cyc_rot (by rw [List.take_append_drop]; exact h.1), h.2.1.rot k, once_rot (by rw [List.take_append_drop]; exact h.2.2.1), fun q hq => ?_, by rw [e]; exact h.2.2.2.2.1, by rw [e]; exact h.2.2.2.2.2⟩
  rcases List.mem_append.mp hq with z | z
  · exact h.2.2.2.1 q (List.mem_of_mem_drop z)
  · exact h.2.2.2.1 q (List.mem_of_mem_take z)
theorem out_own {l : List Pt} {j : Nat} : cutD (prs l) none (some (j : Int)) ++ cutD (prs l) (some ((j : Int) + 1)) none = prs (l.take j ++ l.drop (j + 1)) := by
  rw [show ((j : Int) + 1) = ((j + 1 : Nat) : Int) from rfl, cut_from, cut_to]
  show (l.map pd).take _ ++ (l.map pd).drop _ = List.map pd (l.take j ++ l.drop (j + 1))
  rw [List.map_append, List.map_drop, List.map_take]
end RR

namespace RR
open PySem PySem.Spec L2
/-! ### numbers of smooth rounds: the mathematics -/
def gp (l : List Pt) (i : Nat) : Pt := l[i]?.getD (0, 0)
def nxI (n j : Nat) : Nat := if j + 1 = n then 0 else j + 1
def pvI (n j : Nat) : Nat := if j = 0 then n - 1 else j - 1
def tagAt (l : List Pt) (j : Nat) : Int := 0 - cr (gp l (pvI l.length j)) (gp l (nxI l.length j))
def tags (l : List Pt) : List Int := (List.range l.length).map (tagAt l)
theorem tags_length {l : List Pt} : (tags l).length = l.length := by
  unfold tags
  rw [List.length_map, List.length_range]
theorem tags_get {l : List Pt} {j : Nat} (h : j < l.length) : (tags l)[j]? = some (tagAt l j) := by
  unfold tags
  rw [List.getElem?_map, List.getElem?_range h]
  rfl
theorem gp_get {l : List Pt} {j : Nat} (h : j < l.length) : l[j]? = some (gp l j) := by
  unfold gp
  rw [List.getElem?_eq_getElem h]
  rfl
theorem gp_eq {l : List Pt} {j : Nat} (h : j < l.length) : gp l j = l[j] := by
  unfold gp
  rw [List.getElem?_eq_getElem h]
  rfl
theorem gp_mem {l : List Pt} {j : Nat} (h : j < l.length) : gp l j ∈ l := by
  rw [gp_eq h]
  exact List.getElem_mem h
theorem nxI_lt {n j : Nat} (h : j < n) : nxI n j < n := by
  unfold nxI
  split <;> omega
theorem pvI_lt {n j : Nat} (h : j < n) : pvI n j < n := by
  unfold pvI
  split <;> omega
theorem nxI_mod {n j : Nat} (h : j < n) : (j + 1) % n = nxI n j := by
  unfold nxI
  split
  · rename_i e
    rw [e, Nat.mod_self]
  · exact Nat.mod_eq_of_lt (by omega)
theorem pvI_mod {n j : Nat} (h : j < n) : (j + n - 1) % n = pvI n j := by
  unfold pvI
  split
  · rename_i e
    subst e
    rw [Nat.mod_eq_of_lt (by omega)]
    omega
  · rw [show j + n - 1 = (j - 1) + n by omega, Nat.add_mod_right]
    exact Nat.mod_eq_of_lt (by omega)
theorem nx_pv {n j : Nat} (h : j < n) : nxI n (pvI n j) = j := by
  unfold nxI pvI
  split <;> split <;> omega
theorem smooth_next {l : List Pt} (h : Smooth l) (h2 : 2 ≤ l.length) {j : Nat} (hj : j < l.length) : Uni (gp l j) (gp l (nxI l.length j)) := by
  have hm : (j + 1) % l.length < l.length := Nat.mod_lt _ (by omega)
  have := cyc_at h hj h2 hm
  rw [← gp_eq hj, ← gp_eq hm, nxI_mod hj] at this
  exact this
theorem smooth_prev {l : List Pt} (h : Smooth l) (h2 : 2 ≤ l.length) {j : Nat} (hj : j < l.length) : Uni (gp l (pvI l.length j)) (gp l j) := by
  have := smooth_next h h2 (pvI_lt hj)
  rwa [nx_pv hj] at this
/-- the ray ahead and the ray behind, together -/
theorem smooth_sum {a r b : Pt} (h1 : Uni a r) (h2 : Uni r b) : sm a b = sc (cr a b) r := by
  have e := basis h1 b
  unfold Uni at h2
  rw [h2] at e
  have e1 : b.1 = cr a b * r.1 - 1 * a.1 := congrArg Prod.fst e
  have e2 : b.2 = cr a b * r.2 - 1 * a.2 := congrArg Prod.snd e
  unfold sm sc
  refine Prod.ext ?_ ?_
  · show a.1 + b.1 = _
    omega
  · show a.2 + b.2 = _
    omega
theorem uni_ne {a r : Pt} (h : Uni a r) : r.1 ≠ 0 ∨ r.2 ≠ 0 := by
  by_cases h1 : r.1 = 0
  · right
    intro h2
    unfold Uni cr at h
    rw [h1, h2, Int.mul_zero, Int.mul_zero] at h
    cases h
  · exact .inl h1
theorem at_gp {l : List Pt} {j : Nat} (h : j < l.length) : atI (prs l) (j : Int) = some (pd (gp l j)) := by
  rw [gp_eq h]
  exact at_prs h
theorem at_pv {l : List Pt} {j : Nat} (h : j < l.length) : atI (prs l) ((j : Int) - 1) = some (pd (gp l (pvI l.length j))) := by
  refine at_prev h ?_
  rw [pvI_mod h]
  exact gp_get (pvI_lt h)
theorem mod_nx {l : List Pt} {j : Nat} (h : j < l.length) : ((j : Int) + 1).fmod ((prs l).length : Nat) = (nxI l.length j : Nat) := by
  rw [mod_len (by omega), nxI_mod h]
end RR

namespace RR
open PySem PySem.Spec L2
/-! ### twelve -/
def ng (p : Pt) : Pt := (-p.1, -p.2)
theorem ng_ng (p : Pt) : ng (ng p) = p := by
  unfold ng
  exact Prod.ext (Int.neg_neg _) (Int.neg_neg _)
/-- the next pair: with the one ahead and so many times this one it comes to nought -/
def nx (p q : Pt) (a : Int) : Pt := (-(p.1 + a * q.1), -(p.2 + a * q.2))
/-- where a row leads -/
def en : Pt → Pt → List Int → Pt × Pt
  | p, q, [] => (p, q)
  | p, q, a :: r => en q (nx p q a) r
/-- how often an end of the first axis is passed, from a on, ahead of b -/
def hx (a b : Pt) : Nat := hb (1, 0) a b + hb (-1, 0) a b
def hs : Pt → Pt → List Int → Nat
  | _, _, [] => 0
  | p, q, a :: r => hx p q + hs q (nx p q a) r
theorem en_append : ∀ {r s : List Int} {p q : Pt}, en p q (r ++ s) = en (en p q r).1 (en p q r).2 s
  | [], s, p, q => rfl
  | a :: r, s, p, q => en_append (r := r)
theorem hs_append : ∀ {r s : List Int} {p q : Pt}, hs p q (r ++ s) = hs p q r + hs (en p q r).1 (en p q r).2 s
  | [], s, p, q => (Nat.zero_add _).symm
  | a :: r, s, p, q => by
    show hx p q + hs q (nx p q a) (r ++ s) = hx p q + hs q (nx p q a) r + _
    rw [hs_append, Nat.add_assoc]
    rfl
theorem nx_ng (p q : Pt) (a : Int) : nx (ng p) (ng q) a = ng (nx p q a) := by
  unfold nx ng
  refine Prod.ext ?_ ?_
  · show -(-p.1 + a * -q.1) = - -(p.1 + a * q.1)
    rw [Int.mul_neg]
    omega
  · show -(-p.2 + a * -q.2) = - -(p.2 + a * q.2)
    rw [Int.mul_neg]
    omega
theorem en_ng : ∀ {r : List Int} {p q : Pt}, en (ng p) (ng q) r = (ng (en p q r).1, ng (en p q r).2)
  | [], p, q => rfl
  | a :: r, p, q => by
    show en (ng q) (nx (ng p) (ng q) a) r = _
    rw [nx_ng, en_ng]
    rfl
theorem cr_ngl (a b : Pt) : cr (ng a) b = cr a (ng b) := by
  unfold cr ng
  grind
theorem hx_ng (a b : Pt) : hx (ng a) (ng b) = hx a b := by
  have key : ∀ v a b, hb v (ng a) (ng b) = hb (ng v) a b := fun v a b => by
    unfold hb
    have e1 : cr (ng a) v = cr a (ng v) := by unfold cr ng; grind
    have e2 : cr v (ng b) = cr (ng v) b := by unfold cr ng; grind
    rw [e1, e2]
  unfold hx
  rw [key, key]
  show hb (-1, -0) a b + hb (- -1, -0) a b = _
  rw [Nat.add_comm]
  rfl
theorem hs_ng : ∀ {r : List Int} {p q : Pt}, hs (ng p) (ng q) r = hs p q r
  | [], p, q => rfl
  | a :: r, p, q => by
    show hx (ng p) (ng q) + hs (ng q) (nx (ng p) (ng q) a) r = hx p q + hs q (nx p q a) r
    rw [nx_ng, hs_ng, hx_ng]
theorem nx_cr (p q : Pt) (a : Int) : cr q (nx p q a) = cr p q := by
  unfold cr nx
  show q.1 * -(p.2 + a * q.2) - q.2 * -(p.1 + a * q.1) = p.1 * q.2 - p.2 * q.1
  grind
theorem hx_split {a m b : Pt} (h1 : 0 < cr a m) (h2 : 0 < cr m b) (h3 : 0 < cr a b) : hx a b = hx a m + hx m b := by
  unfold hx
  rw [hb_split (v := (1, 0)) h1 h2 h3, hb_split (v := (-1, 0)) h1 h2 h3]
  omega
theorem hb1 (a b : Pt) : hb (1, 0) a b = if a.2 ≤ 0 ∧ 0 < b.2 then 1 else 0 := by
  unfold hb
  have e1 : cr a (1, 0) = - a.2 := by unfold cr; simp
  have e2 : cr (1, 0) b = b.2 := by unfold cr; simp
  rw [e1, e2]
  by_cases h : a.2 ≤ 0 ∧ 0 < b.2
  · rw [if_pos h, if_pos ⟨by omega, h.2⟩]
  · rw [if_neg h, if_neg (by omega)]
theorem hb2 (a b : Pt) : hb (-1, 0) a b = if 0 ≤ a.2 ∧ b.2 < 0 then 1 else 0 := by
  unfold hb
  have e1 : cr a (-1, 0) = a.2 := by unfold cr; simp
  have e2 : cr (-1, 0) b = - b.2 := by unfold cr; simp
  rw [e1, e2]
  by_cases h : 0 ≤ a.2 ∧ b.2 < 0
  · rw [if_pos h, if_pos ⟨h.1, by omega⟩]
  · rw [if_neg h, if_neg (by omega)]
theorem hx_half {q w : Pt} (h : 0 < cr q w) : hx q w + hx w (ng q) = 1 := by
  have hne : ¬ (q.2 = 0 ∧ w.2 = 0) := fun z => by
    unfold cr at h
    rw [z.1, z.2] at h
    simp at h
  unfold hx
  rw [hb1, hb2, hb1, hb2]
  show _ + (( if w.2 ≤ 0 ∧ 0 < -q.2 then 1 else 0) + (if 0 ≤ w.2 ∧ -q.2 < 0 then 1 else 0)) = 1
  split <;> split <;> split <;> split <;> omega
/-! a row that leads back, up to the sign -/
def Clo (p q : Pt) (r : List Int) : Prop := en p q r = (p, q) ∨ en p q r = (ng p, ng q)
theorem clo_rot1 {p q : Pt} {a : Int} {r : List Int} (h : Clo p q (a :: r)) : Clo q (nx p q a) (r ++ [a]) ∧ hs q (nx p q a) (r ++ [a]) = hs p q (a :: r) := by
  have e : en q (nx p q a) (r ++ [a]) = ((en p q (a :: r)).2, nx (en p q (a :: r)).1 (en p q (a :: r)).2 a) := by
    rw [en_append]
    rfl
  have e2 : hs q (nx p q a) (r ++ [a]) = hs q (nx p q a) r + hx (en p q (a :: r)).1 (en p q (a :: r)).2 := by
    rw [hs_append]
    rfl
  rcases h with h | h
  · rw [h] at e e2
    refine ⟨.inl e, ?_⟩
    rw [e2]
    exact Nat.add_comm ..
  · rw [h] at e e2
    refine ⟨.inr (by rw [e, nx_ng]), ?_⟩
    rw [e2, hx_ng]
    exact Nat.add_comm ..
theorem clo_rot : ∀ {s r : List Int} {p q : Pt}, Clo p q (s ++ r) → cr p q = 1 → ∃ p' q', cr p' q' = 1 ∧ Clo p' q' (r ++ s) ∧ hs p' q' (r ++ s) = hs p q (s ++ r)
  | [], r, p, q, h, c => ⟨p, q, c, by rw [List.append_nil]; exact h, by rw [List.append_nil]; rfl⟩
  | a :: s, r, p, q, h, c => by
    obtain ⟨h1, h2⟩ := clo_rot1 (r := s ++ r) h
    rw [List.append_assoc] at h1 h2
    obtain ⟨p', q', c', h3, h4⟩ := clo_rot (s := s) (r := r ++ [a]) h1 (by rw [nx_cr]; exact c)
    refine ⟨p', q', c', ?_, ?_⟩
    · rw [List.append_assoc] at h3
      exact h3
    · rw [List.append_assoc] at h4
      exact h4.trans h2
/-- where all numbers are from 2 on either way, it never leads back -/
theorem grow : ∀ {r : List Int} {p q u w : Pt} , (∀ a ∈ r, 2 ≤ a.natAbs) → (cr u p).natAbs < (cr u q).natAbs → (cr u (en p q r).1).natAbs < (cr u (en p q r).2).natAbs ∧ (r ≠ [] → (cr u p).natAbs < (cr u (en p q r).1).natAbs)
  | [], p, q, u, w, _, h => ⟨h, fun z => absurd rfl z⟩
  | a :: r, p, q, u, w, h2, h => by
    have e : cr u (nx p q a) = -(cr u p + a * cr u q) := by
      unfold cr nx
      show u.1 * -(p.2 + a * q.2) - u.2 * -(p.1 + a * q.1) = -(u.1 * p.2 - u.2 * p.1 + a * (u.1 * q.2 - u.2 * q.1))
      grind
    have g : (cr u q).natAbs < (cr u (nx p q a)).natAbs := by
      rw [e]
      have m : 2 * (cr u q).natAbs ≤ (a * cr u q).natAbs := by
        rw [Int.natAbs_mul]
        exact Nat.mul_le_mul_right _ (h2 a (by simp))
      omega
    obtain ⟨i1, i2⟩ := grow (r := r) (w := w) (fun b hb => h2 b (by simp [hb])) g
    refine ⟨i1, fun _ => ?_⟩
    cases r with
    | nil => exact h
    | cons b r =>
      have := i2 (by simp)
      exact Nat.lt_trans h this
theorem clo_small {p q : Pt} {r : List Int} (c : cr p q = 1) (h : Clo p q r) (hr : r ≠ []) : ∃ e ∈ r, e = -1 ∨ e = 0 ∨ e = 1 := by
  refine Classical.byContradiction fun n => ?_
  have h2 : ∀ a ∈ r, 2 ≤ a.natAbs := fun a ha => by
    refine Classical.byContradiction fun z => n ⟨a, ha, by omega⟩
  have s : cr p p = 0 := cr_self p
  obtain ⟨_, g⟩ := grow (u := p) (p := p) (q := q) (w := p) h2 (by rw [s, c]; decide)
  have g := g hr
  rcases h with h | h
  · rw [h, s] at g
    exact absurd g (by decide)
  · rw [h] at g
    have : cr p (ng p) = 0 := by
      unfold cr ng
      show p.1 * -p.2 - p.2 * -p.1 = 0
      grind
    rw [this, s] at g
    exact absurd g (by decide)
theorem nx_m1 (p q : Pt) (a b : Int) : nx p q (a + 1) = nx q (nx p q a) (-1) ∧ nx q (nx p q (a + 1)) (b + 1) = nx (nx p q a) (nx q (nx p q a) (-1)) b := by
  unfold nx
  constructor
  · refine Prod.ext ?_ ?_
    · show -(p.1 + (a + 1) * q.1) = -(q.1 + -1 * -(p.1 + a * q.1))
      grind
    · show -(p.2 + (a + 1) * q.2) = -(q.2 + -1 * -(p.2 + a * q.2))
      grind
  · refine Prod.ext ?_ ?_
    · show -(q.1 + (b + 1) * -(p.1 + (a + 1) * q.1)) = -(-(p.1 + a * q.1) + b * -(q.1 + -1 * -(p.1 + a * q.1)))
      grind
    · show -(q.2 + (b + 1) * -(p.2 + (a + 1) * q.2)) = -(-(p.2 + a * q.2) + b * -(q.2 + -1 * -(p.2 + a * q.2)))
      grind
theorem nx_p1 (p q : Pt) (a b : Int) : nx p q (a - 1) = ng (nx q (nx p q a) 1) ∧ nx q (nx p q (a - 1)) (b - 1) = ng (nx (nx p q a) (nx q (nx p q a) 1) b) := by
  unfold nx ng
  constructor
  · refine Prod.ext ?_ ?_
    · show -(p.1 + (a - 1) * q.1) = - -(q.1 + 1 * -(p.1 + a * q.1))
      grind
    · show -(p.2 + (a - 1) * q.2) = - -(q.2 + 1 * -(p.2 + a * q.2))
      grind
  · refine Prod.ext ?_ ?_
    · show -(q.1 + (b - 1) * -(p.1 + (a - 1) * q.1)) = - -(-(p.1 + a * q.1) + b * -(q.1 + 1 * -(p.1 + a * q.1)))
      grind
    · show -(q.2 + (b - 1) * -(p.2 + (a - 1) * q.2)) = - -(-(p.2 + a * q.2) + b * -(q.2 + 1 * -(p.2 + a * q.2)))
      grind
theorem nx_z (p q : Pt) (a b : Int) : nx q (nx p q a) 0 = ng q ∧ nx p q (a + b) = ng (nx (nx p q a) (nx q (nx p q a) 0) b) := by
  unfold nx ng
  constructor
  · refine Prod.ext ?_ ?_
    · show -(q.1 + 0 * -(p.1 + a * q.1)) = -q.1
      grind
    · show -(q.2 + 0 * -(p.2 + a * q.2)) = -q.2
      grind
  · refine Prod.ext ?_ ?_
    · show -(p.1 + (a + b) * q.1) = - -(-(p.1 + a * q.1) + b * -(q.1 + 0 * -(p.1 + a * q.1)))
      grind
    · show -(p.2 + (a + b) * q.2) = - -(-(p.2 + a * q.2) + b * -(q.2 + 0 * -(p.2 + a * q.2)))
      grind
theorem clo_ng {p q : Pt} {r : List Int} {x : Pt × Pt} (h : x = (p, q) ∨ x = (ng p, ng q)) (e : en p q r = (ng x.1, ng x.2)) : Clo p q r := by
  rcases h with rfl | rfl
  · exact .inr e
  · left
    rw [e, ng_ng, ng_ng]
/-- one step down -/
theorem clo_step {p q : Pt} {a e b : Int} {s : List Int} (c : cr p q = 1) (h : Clo p q (a :: e :: b :: s)) (he : e = -1 ∨ e = 0 ∨ e = 1) :
    ∃ r, Clo p q r ∧ r.length < (a :: e :: b :: s).length ∧ 6 * (hs p q (a :: e :: b :: s) : Int) - (a :: e :: b :: s).sum - 3 * (a :: e :: b :: s).length = 6 * (hs p q r : Int) - r.sum - 3 * r.length := by
  have c2 : cr q (nx p q a) = 1 := by rw [nx_cr]; exact c
  rcases he with rfl | rfl | rfl
  · obtain ⟨e1, e2⟩ := nx_m1 p q a b
    refine ⟨(a + 1) :: (b + 1) :: s, ?_, by simp, ?_⟩
    · have : en p q ((a + 1) :: (b + 1) :: s) = en p q (a :: -1 :: b :: s) := by
        show en (nx p q (a + 1)) (nx q (nx p q (a + 1)) (b + 1)) s = en (nx q (nx p q a) (-1)) (nx (nx p q a) (nx q (nx p q a) (-1)) b) s
        rw [e2, e1]
      unfold Clo
      rw [this]
      exact h
    · have c3 : cr (nx p q a) (nx q (nx p q a) (-1)) = 1 := by rw [nx_cr]; exact c2
      have c4 : cr q (nx q (nx p q a) (-1)) = 1 := by rw [← e1, nx_cr]; exact c
      have sp := hx_split (a := q) (m := nx p q a) (b := nx q (nx p q a) (-1)) (by omega) (by omega) (by omega)
      have h1 : hs p q ((a + 1) :: (b + 1) :: s) = hx p q + (hx q (nx q (nx p q a) (-1)) + hs (nx q (nx p q a) (-1)) (nx (nx p q a) (nx q (nx p q a) (-1)) b) s) := by
        show hx p q + (hx q (nx p q (a + 1)) + hs (nx p q (a + 1)) (nx q (nx p q (a + 1)) (b + 1)) s) = _
        rw [e2, e1]
      have h2 : hs p q (a :: -1 :: b :: s) = hx p q + (hx q (nx p q a) + (hx (nx p q a) (nx q (nx p q a) (-1)) + hs (nx q (nx p q a) (-1)) (nx (nx p q a) (nx q (nx p q a) (-1)) b) s)) := rfl
      rw [h1, h2, sp]
      simp only [List.sum_cons, List.length_cons]
      omega
  · obtain ⟨e1, e2⟩ := nx_z p q a b
    refine ⟨(a + b) :: s, ?_, by simp, ?_⟩
    · have : en p q ((a + b) :: s) = (ng (en p q (a :: 0 :: b :: s)).1, ng (en p q (a :: 0 :: b :: s)).2) := by
        show en q (nx p q (a + b)) s = _
        have h3 : en p q (a :: 0 :: b :: s) = en (nx q (nx p q a) 0) (nx (nx p q a) (nx q (nx p q a) 0) b) s := rfl
        rw [h3, ← en_ng, e2]
        congr 1
        rw [e1, ng_ng]
      exact clo_ng h this
    · have hh := hx_half (q := q) (w := nx p q a) (by omega)
      have h1 : hs p q ((a + b) :: s) = hx p q + hs (nx q (nx p q a) 0) (nx (nx p q a) (nx q (nx p q a) 0) b) s := by
        show hx p q + hs q (nx p q (a + b)) s = _
        rw [e2]
        rw [← hs_ng (p := nx q (nx p q a) 0)]
        congr 2
        rw [e1, ng_ng]
      have h2 : hs p q (a :: 0 :: b :: s) = hx p q + (hx q (nx p q a) + (hx (nx p q a) (nx q (nx p q a) 0) + hs (nx q (nx p q a) 0) (nx (nx p q a) (nx q (nx p q a) 0) b) s)) := rfl
      rw [h1, h2]
      rw [← e1] at hh
      simp only [List.sum_cons, List.length_cons]
      omega
  · obtain ⟨e1, e2⟩ := nx_p1 p q a b
    refine ⟨(a - 1) :: (b - 1) :: s, ?_, by simp, ?_⟩
    · have : en p q ((a - 1) :: (b - 1) :: s) = (ng (en p q (a :: 1 :: b :: s)).1, ng (en p q (a :: 1 :: b :: s)).2) := by
        show en (nx p q (a - 1)) (nx q (nx p q (a - 1)) (b - 1)) s = _
        have h3 : en p q (a :: 1 :: b :: s) = en (nx q (nx p q a) 1) (nx (nx p q a) (nx q (nx p q a) 1) b) s := rfl
        rw [h3, ← en_ng, e2, e1]
      exact clo_ng h this
    · have hh := hx_half (q := q) (w := nx p q a) (by omega)
      have c3 : cr (nx p q a) (nx q (nx p q a) 1) = 1 := by rw [nx_cr]; exact c2
      have c5 : cr (nx p q a) (ng q) = 1 := by
        rw [← c2]
        unfold cr ng
        grind
      have c6 : cr (ng q) (nx q (nx p q a) 1) = 1 := by
        have z : cr q (ng (nx q (nx p q a) 1)) = 1 := by rw [← e1, nx_cr]; exact c
        rw [cr_ngl]
        exact z
      have sp := hx_split (a := nx p q a) (m := ng q) (b := nx q (nx p q a) 1) (by omega) (by omega) (by omega)
      have hn : hx (ng q) (nx q (nx p q a) 1) = hx q (ng (nx q (nx p q a) 1)) := by
        rw [← hx_ng (ng q), ng_ng]
      have h1 : hs p q ((a - 1) :: (b - 1) :: s) = hx p q + (hx q (ng (nx q (nx p q a) 1)) + hs (nx q (nx p q a) 1) (nx (nx p q a) (nx q (nx p q a) 1) b) s) := by
        show hx p q + (hx q (nx p q (a - 1)) + hs (nx p q (a - 1)) (nx q (nx p q (a - 1)) (b - 1)) s) = _
        rw [e2, e1, hs_ng]
      have h2 : hs p q (a :: 1 :: b :: s) = hx p q + (hx q (nx p q a) + (hx (nx p q a) (nx q (nx p q a) 1) + hs (nx q (nx p q a) 1) (nx (nx p q a) (nx q (nx p q a) 1) b) s)) := rfl
      rw [h1, h2, sp, hn]
      simp only [List.sum_cons, List.length_cons]
      omega
theorem pt_zero {p : Pt} (h : p = ng p) : p = (0, 0) := by
  have h1 : p.1 = -p.1 := congrArg Prod.fst h
  have h2 : p.2 = -p.2 := congrArg Prod.snd h
  exact Prod.ext (show p.1 = 0 by omega) (show p.2 = 0 by omega)
/-- a number to the second place -/
theorem spin {p q : Pt} {w : List Int} {e : Int} (c : cr p q = 1) (h : Clo p q w) (he : e ∈ w) (h2 : 2 ≤ w.length) : ∃ (x : Int) (t : List Int) (p' q' : Pt), cr p' q' = 1 ∧ Clo p' q' (x :: e :: t) ∧ hs p' q' (x :: e :: t) = hs p q w ∧ (x :: e :: t).sum = w.sum ∧ (x :: e :: t).length = w.length := by
  obtain ⟨r1, r2, rfl⟩ := List.append_of_mem he
  by_cases h1 : r1 = []
  · subst h1
    have n2 : r2 ≠ [] := fun z => by
      subst z
      simp at h2
    obtain ⟨r3, x, rfl⟩ : ∃ r3 x, r2 = r3 ++ [x] := ⟨r2.dropLast, r2.getLast n2, (List.dropLast_concat_getLast n2).symm⟩
    obtain ⟨p', q', c', k1, k2⟩ := clo_rot (s := e :: r3) (r := [x]) h c
    refine ⟨x, r3, p', q', c', k1, k2, ?_, ?_⟩
    · simp only [List.sum_cons, List.nil_append, List.sum_append, List.sum_nil]
      omega
    · simp
  · obtain ⟨r3, x, rfl⟩ : ∃ r3 x, r1 = r3 ++ [x] := ⟨r1.dropLast, r1.getLast h1, (List.dropLast_concat_getLast h1).symm⟩
    rw [List.append_assoc] at h
    obtain ⟨p', q', c', k1, k2⟩ := clo_rot (s := r3) (r := x :: e :: r2) h c
    refine ⟨x, r2 ++ r3, p', q', c', k1, ?_, ?_, ?_⟩
    · rw [List.append_assoc]
      exact k2
    · simp only [List.sum_cons, List.sum_append, List.sum_nil]
      omega
    · simp
      omega
/-- six for each half turn -/
theorem six : ∀ (n : Nat) (p q : Pt) (r : List Int), r.length ≤ n → cr p q = 1 → Clo p q r → 6 * (hs p q r : Int) = r.sum + 3 * r.length := by
  intro n
  induction n with
  | zero =>
    intro p q r hn c h
    have : r = [] := List.length_eq_zero_iff.mp (by omega)
    subst this
    rfl
  | succ n ih =>
    intro p q r hn c h
    by_cases hr : r = []
    · subst hr
      rfl
    obtain ⟨e, he, hs3⟩ := clo_small c h hr
    -- short ones
    match r, hn, h, hr, he with
    | [a], hn, h, _, _ =>
      exfalso
      have z : q = p ∨ q = ng p := by
        rcases h with h | h
        · exact .inl (congrArg Prod.fst h)
        · exact .inr (congrArg Prod.fst h)
      rcases z with rfl | rfl
      · rw [cr_self] at c; cases c
      · have : cr p (ng p) = 0 := by
          unfold cr ng
          show p.1 * -p.2 - p.2 * -p.1 = 0
          grind
        rw [this] at c; cases c
    | [a, b], hn, h, _, _ =>
      have e1 : (nx p q a = p ∧ nx q (nx p q a) b = q) ∨ (nx p q a = ng p ∧ nx q (nx p q a) b = ng q) := by
        rcases h with h | h
        · exact .inl ⟨congrArg Prod.fst h, congrArg Prod.snd h⟩
        · exact .inr ⟨congrArg Prod.fst h, congrArg Prod.snd h⟩
      have c2 := nx_cr p q a
      rcases e1 with ⟨e1, e2⟩ | ⟨e1, e2⟩
      · exfalso
        rw [e1, c, cr_neg, c] at c2
        cases c2
      · have a0 : a = 0 := by
          have z1 : -(p.1 + a * q.1) = -p.1 := congrArg Prod.fst e1
          have z2 : -(p.2 + a * q.2) = -p.2 := congrArg Prod.snd e1
          have y1 : a * q.1 = 0 := by omega
          have y2 : a * q.2 = 0 := by omega
          rcases Int.mul_eq_zero.mp y1 with y | y
          · exact y
          · rcases Int.mul_eq_zero.mp y2 with y' | y'
            · exact y'
            · unfold cr at c
              rw [y, y'] at c
              simp at c
        have b0 : b = 0 := by
          rw [e1] at e2
          have z1 : -(q.1 + b * -p.1) = -q.1 := congrArg Prod.fst e2
          have z2 : -(q.2 + b * -p.2) = -q.2 := congrArg Prod.snd e2
          rw [Int.mul_neg] at z1 z2
          have y1 : b * p.1 = 0 := by omega
          have y2 : b * p.2 = 0 := by omega
          rcases Int.mul_eq_zero.mp y1 with y | y
          · exact y
          · rcases Int.mul_eq_zero.mp y2 with y' | y'
            · exact y'
            · unfold cr at c
              rw [y, y'] at c
              simp at c
        have hh := hx_half (q := p) (w := q) (by omega)
        have h2 : hs p q [a, b] = hx p q + (hx q (nx p q a) + 0) := rfl
        rw [h2, e1, Nat.add_zero, hh, a0, b0]
        rfl
    | a :: b :: d :: s, hn, h, _, he =>
      -- the small one to the second place
      obtain ⟨x, t, p', q', c', h', ht, hsum, hlen⟩ : ∃ (x : Int) (t : List Int) (p' q' : Pt), cr p' q' = 1 ∧ Clo p' q' (x :: e :: t) ∧ hs p' q' (x :: e :: t) = hs p q (a :: b :: d :: s) ∧ (x :: e :: t).sum = (a :: b :: d :: s).sum ∧ (x :: e :: t).length = (a :: b :: d :: s).length := by
        exact spin c h he (by simp)
      match t, h', ht, hsum, hlen with
      | [], _, _, _, hlen => simp at hlen
      | y :: t, h', ht, hsum, hlen =>
        obtain ⟨r', k1, k2, k3⟩ := clo_step c' h' hs3
        have i := ih p' q' r' (by rw [hlen] at k2; omega) c' k1
        rw [hsum, hlen, ht] at k3
        omega
end RR

namespace RR
open PySem PySem.Spec L2
def nl (w : Option W) : Prop := ∀ xs, w ≠ some (W.own xs)
theorem nl_none : nl none := fun _ h => nomatch h
theorem nl_val {d : D} : nl (some (.val d)) := fun _ h => nomatch h
theorem nO1' {ρ : Rho} {i : Nat} {w : Option W} (h : ρ[i]? = some w) (k : nl w) : noOwn ρ [i] := by
  intro v hv xs e
  obtain rfl : v = i := by simpa using hv
  rw [h] at e
  exact k xs (Option.some.inj e)
theorem nO2' {ρ : Rho} {i j : Nat} {w w' : Option W} (h : ρ[i]? = some w) (k : nl w) (h' : ρ[j]? = some w') (k' : nl w') : noOwn ρ [i, j] := by
  intro v hv xs e
  rcases List.mem_cons.mp hv with rfl | hv
  · rw [h] at e
    exact k xs (Option.some.inj e)
  · exact nO1' h' k' v hv xs e
end RR

/-! LayFilt: a comprehension with a test, over a map. -/
namespace RR
open PySem PySem.Spec L2
/-- a comprehension with a test -/
theorem lc_filt {α : Type} {ss : Srcs} {vs : List Nat} {g : TgD} {tt : TtD} {te : TeD} {P : PostE} (f hh : α → D) (keep : α → Bool) {ρ : Rho} (xs : List α) (hlen : xs.length ≤ 1000000) (no : noOwn ρ vs) (hd : P (.own ((xs.filter keep).map hh)) ρ)
    (hs : ∀ x ∈ xs, ∀ (acc : List D) (k : List D → Rho → Prop), (keep x = true → k (acc ++ [hh x]) ρ) → (keep x = false → k acc ρ) → g (f x) (wipeD ρ vs) fun ρ1 => tt ρ1 (fun b ρ2 =>
      br b (te ρ2 (fun r ρ3 => onSome (fz ρ3 r) fun p => srcOk ss (unwipe ρ p.2 vs) ∧ k (acc ++ [p.1]) (unwipe ρ p.2 vs)) noX)
        (srcOk ss (unwipe ρ ρ2 vs) ∧ k acc (unwipe ρ ρ2 vs))) noX) :
    lcD ss vs g tt te P (xs.map f) [] ρ := by
  refine lc_ind (fun items acc ρ' => ρ' = ρ ∧ ∃ pre post, xs = pre ++ post ∧ items = post.map f ∧ acc = (pre.filter keep).map hh) ?_ ?_ _ [] ρ ⟨rfl, [], xs, rfl, rfl, rfl⟩
  · rintro x rest acc ρ' ⟨rfl, pre, post, e1, e2, rfl⟩ k hk
    cases post with
    | nil => simp at e2
    | cons a post =>
      rw [List.map_cons, List.cons.injEq] at e2
      obtain ⟨rfl, rfl⟩ := e2
      refine ⟨no, ?_, hs a (by rw [e1]; simp) _ k (fun ka => hk _ _ ⟨rfl, pre ++ [a], post, by rw [e1]; simp, rfl, by rw [List.filter_append]; simp [ka]⟩) (fun ka => hk _ _ ⟨rfl, pre ++ [a], post, by rw [e1]; simp, rfl, by rw [List.filter_append]; simp [ka]⟩)⟩
      rw [List.length_map]
      rw [e1, List.length_append, List.length_cons] at hlen
      have := List.length_filter_le keep pre
      omega
  · rintro acc ρ' ⟨rfl, pre, post, e1, e2, rfl⟩
    have : post = [] := by
      cases post with
      | nil => rfl
      | cons a post => simp at e2
    subst this
    rw [List.append_nil] at e1
    rw [← e1]
    exact hd
/-- a for over what is had at once (a written list): the items told -/
theorem for_of {ti : TiD} {g : TgD} {tb : TsD} {DD : EndsD} {ρ ρ1 : Rho} {ss : Srcs} {items : List D} (hi : ∀ (P : List D → Srcs → Rho → Prop) (PX : PostX), P items ss ρ1 → ti ρ P PX) (h : loopD ss g tb DD items ρ1) : tForD ti g tb DD ρ := hi _ _ h
/-- a condition that is known to hold -/
theorem ifT_of {c : TtD} {p q : TsD} {DD : EndsD} {ρ ρ1 : Rho} (h : ∀ (P : Bool → Rho → Prop) (PX : PostX), P true ρ1 → c ρ P PX) (k : p DD ρ1) : tIfD c p q DD ρ := h _ _ k
theorem ifF_of {c : TtD} {p q : TsD} {DD : EndsD} {ρ ρ1 : Rho} (h : ∀ (P : Bool → Rho → Prop) (PX : PostX), P false ρ1 → c ρ P PX) (k : q DD ρ1) : tIfD c p q DD ρ := h _ _ k
end RR

namespace RR
open PySem PySem.Spec L2
local macro_rules | `(tactic| exists $e) => `(tactic| first | refine onSome_of $e ?_ | refine onSome_of rfl (onSome_of $e ?_) | refine onSome_of rfl (onSome_of rfl (onSome_of $e ?_)) | refine onSome_of rfl (onSome_of rfl (onSome_of rfl (onSome_of $e ?_))) | refine onSome_of rfl (onSome_of rfl (onSome_of rfl (onSome_of rfl (onSome_of $e ?_)))) | refine onSome_of rfl (onSome_of rfl (onSome_of rfl (onSome_of rfl (onSome_of rfl (onSome_of $e ?_))))) | refine onSome_of rfl (onSome_of rfl (onSome_of rfl (onSome_of rfl (onSome_of rfl (onSome_of rfl (onSome_of $e ?_)))))))
/-! ### what a round is -/
/-- whether the way to the east is the first one's, or lies between both -/
def est (p q : Pt) : Bool := if p.2 = 0 then decide (0 < p.1) else decide (p.2 < 0) && decide (0 < q.2)
def eastN (l : List Pt) : Nat := ((steps l).filter fun w => est w.1 w.2).length
def wedF : Nat → List (Pt × Pt) → Option Nat
  | _, [] => none
  | i, w :: ws => if cr w.1 w.2 ≤ 0 then some i else wedF (i + 1) ws
def rayF : Nat → List D → Option Nat
  | _, [] => none
  | i, x :: xs => if rayB x then rayF (i + 1) xs else some i
def fltP (l : List Pt) : Option (String × Nat) := match wedF 0 (steps l) with
  | some i => some ("wedge", i)
  | none => if eastN l = 1 then none else some ("turns", 0)
def toP : D → Pt
  | .tuple [.int a, .int b] => (a, b)
  | _ => (0, 0)
/-- the first fault of a thing -/
def flt : D → Option (String × Nat)
  | .list xs => if xs.length < 3 then some ("round", 0) else match rayF 0 xs with
    | some i => some ("ray", i)
    | none => fltP (xs.map toP)
  | _ => some ("round", 0)
theorem rayB_pd {d : D} (h : rayB d = true) : d = pd (toP d) := by
  unfold rayB at h
  split at h
  · rfl
  · cases h
theorem rayF_none : ∀ {xs : List D} {i : Nat}, rayF i xs = none → xs = prs (xs.map toP) ∧ ∀ x ∈ xs, rayB x = true
  | [], _, _ => ⟨rfl, fun _ h => by cases h⟩
  | x :: xs, i, h => by
    unfold rayF at h
    by_cases hx : rayB x = true
    · rw [if_pos hx] at h
      obtain ⟨a, b⟩ := rayF_none h
      refine ⟨?_, fun y hy => ?_⟩
      · show x :: xs = pd (toP x) :: prs (xs.map toP)
        rw [← a, ← rayB_pd hx]
      · rcases List.mem_cons.mp hy with rfl | hy
        · exact hx
        · exact b y hy
    · rw [if_neg hx] at h
      cases h
theorem rayF_prs : ∀ {l : List Pt} {i : Nat}, (∀ p ∈ l, Int.gcd p.1 p.2 = 1) → rayF i (prs l) = none
  | [], _, _ => rfl
  | p :: l, i, h => by
    show (if rayB (pd p) = true then rayF (i + 1) (prs l) else some i) = none
    rw [if_pos (show rayB (pd p) = true from decide_eq_true (h p (by simp)))]
    exact rayF_prs fun q hq => h q (by simp [hq])
theorem toP_prs (l : List Pt) : (prs l).map toP = l := by
  rw [List.map_map]
  exact List.map_id' l
theorem flt_prs {l : List Pt} (h : ∀ p ∈ l, Int.gcd p.1 p.2 = 1) (h3 : 3 ≤ l.length) : flt (.list (prs l)) = fltP l := by
  show (if (prs l).length < 3 then _ else match rayF 0 (prs l) with | some i => some ("ray", i) | none => fltP ((prs l).map toP)) = _
  rw [if_neg (by rw [List.length_map]; omega), rayF_prs h, toP_prs]
abbrev xNR (c : String) (i : Nat) : Xc := ⟨"NoRound", [("at", .int (i : Nat)), ("where", .str c)]⟩
def cn_EAST : D := (.tuple [(.int 1), (.int 0)])
def cn_FEWEST : D := (.int 3)
def sp_has_east : SpD := fun ws P _ => ∃ p q : Pt, ws = [.val (pd p), .val (pd q)] ∧ Big p.1 ∧ Big p.2 ∧ Big q.1 ∧ Big q.2 ∧ P (.val (.bool (est p q))) ws
theorem len_has_east : ∀ ws Q E, sp_has_east ws Q E → ws.length = 2 := by
  rintro ws Q E ⟨p, q, rfl, _⟩
  rfl
def N_has_east : List Str := ["one", "other"]
def t_has_east : TsD :=
  (tSeqD (tIfD (tTst (tOp2 gEq (tCallD [] sp_crossed (tConsF (tVar 0) (tConsF (tK cn_EAST) tNilA))) (tK (.int 0)))) (tRetD (tOp2 gGt (tOp2 gIx (tVar 0) (tK (.int 0))) (tK (.int 0)))) tNextD)
  (tRetD (tAndE (tOp2 gGt (tCallD [] sp_crossed (tConsF (tVar 0) (tConsF (tK cn_EAST) tNilA))) (tK (.int 0))) (tOp2 gGt (tCallD [] sp_crossed (tConsF (tK cn_EAST) (tConsF (tVar 1) tNilA))) (tK (.int 0))))))
theorem vc_has_east : ∀ ws Q E, sp_has_east ws Q E → t_has_east (endsOf [] ws Q E) (startD N_has_east ws) := by
  rintro ws Q E ⟨p, q, rfl, b1, b2, b3, b4, h⟩
  have o0 : Big 0 := by decide
  have o1 : Big 1 := by decide
  have e1 : p.1 * 0 - p.2 * 1 = -p.2 := by omega
  have e2 : 1 * q.2 - 0 * q.1 = q.2 := by omega
  refine ⟨p.1, p.2, 1, 0, rfl, b1.ok o0, b2.ok o1, rfl, rfl, ?_⟩
  refine brEq (fun z => ?_) (fun z => ?_)
  · have z : p.2 = 0 := by omega
    unfold est at h
    rw [if_pos z] at h
    exact h
  · have z : p.2 ≠ 0 := by omega
    unfold est at h
    rw [if_neg z] at h
    refine ⟨p.1, p.2, 1, 0, rfl, b1.ok o0, b2.ok o1, brD (fun c => ?_) (fun c => ?_)⟩
    · have c : p.2 < 0 := by omega
      refine ⟨1, 0, q.1, q.2, rfl, o1.ok b4, o0.ok b3, ?_⟩
      rw [decide_eq_true c, Bool.true_and] at h
      show Q (.val (.bool (decide (0 < 1 * q.2 - 0 * q.1)))) _
      rw [e2]
      exact h
    · have c : ¬ p.2 < 0 := by omega
      rw [decide_eq_false c, Bool.false_and] at h
      exact h
theorem wedF_none : ∀ {ws : List (Pt × Pt)} {i : Nat}, wedF i ws = none → ∀ w ∈ ws, 0 < cr w.1 w.2
  | [], _, _, w, hw => by cases hw
  | v :: ws, i, h, w, hw => by
    unfold wedF at h
    by_cases c : cr v.1 v.2 ≤ 0
    · rw [if_pos c] at h
      cases h
    · rw [if_neg c] at h
      rcases List.mem_cons.mp hw with rfl | hw
      · omega
      · exact wedF_none h w hw
theorem wedF_pos : ∀ {ws : List (Pt × Pt)} {i : Nat}, (∀ w ∈ ws, 0 < cr w.1 w.2) → wedF i ws = none
  | [], _, _ => rfl
  | v :: ws, i, h => by
    unfold wedF
    rw [if_neg (by have := h v (by simp); omega)]
    exact wedF_pos fun w hw => h w (by simp [hw])
/-- sizes -/
def okD (d : D) : Prop := ∀ xs, d = .list xs → xs.length ≤ 200000 ∧ ∀ p : Pt, pd p ∈ xs → Bd 5000 p.1 ∧ Bd 5000 p.2
theorem okD_prs {l : List Pt} (h : Small l) (hl : l.length ≤ 200000) : okD (.list (prs l)) := by
  intro xs e
  cases e
  refine ⟨by rw [List.length_map]; exact hl, fun p hp => ?_⟩
  obtain ⟨q, hq, e⟩ := List.mem_map.mp hp
  rw [pd_inj.mp e] at hq
  exact h p hq
def sp_look_round : SpD := fun ws P E => ∃ d : D, ws = [.val d] ∧ okD d ∧ (flt d = none → P (.val .none) ws) ∧ ∀ c i, flt d = some (c, i) → E (xNR c i) ws
theorem len_look_round : ∀ ws Q E, sp_look_round ws Q E → ws.length = 1 := by
  rintro ws Q E ⟨d, rfl, _⟩
  rfl
def N_look_round : List Str := ["thing", "at", "ray", "pair"]
def t_look_round : TsD :=
  (tSeqD (tIfD (tOrT (tNotT (tTst (tOp1 (gIsI "list") (tVar 0)))) (tTst (tOp2 gLt (tBlt gLen (tConsV (tVar 0) tNilA)) (tK cn_FEWEST)))) (tRaiseC "NoRound" "where" "at" (tConsF (tK (.str "no list of rays")) (tConsF (tK (.str "round")) (tConsF (tK (.int 0)) tNilA)))) tNextD)
  (tSeqD (tForD (tiEn [] (tConsV (tVar 0) tNilA)) (gTupD 2 (gsConsD (gNameD 1) (gsConsD (gNameD 2) gsNilD))) (tIfD (tNotT (tTst (tCallD [] sp_is_ray (tConsF (tVar 2) tNilA)))) (tRaiseC "NoRound" "where" "at" (tConsF (tK (.str "no ray")) (tConsF (tK (.str "ray")) (tConsF (tVar 1) tNilA)))) tNextD))
  (tSeqD (tForD (tiEn [] (tConsV (tCallD [] sp_wedges (tConsF (tVar 0) tNilA)) tNilA)) (gTupD 2 (gsConsD (gNameD 1) (gsConsD (gNameD 3) gsNilD))) (tIfD (tTst (tOp2 gLe (tCallD [] sp_crossed (tConsF (tOp2 gIx (tVar 3) (tK (.int 0))) (tConsF (tOp2 gIx (tVar 3) (tK (.int 1))) tNilA))) (tK (.int 0)))) (tRaiseC "NoRound" "where" "at" (tConsF (tK (.str "no wedge")) (tConsF (tK (.str "wedge")) (tConsF (tVar 1) tNilA)))) tNextD))
  (tIfD (tTst (tOp2 gNe (tBlt gLen (tConsV (tLcD (tiL [] (tCallD [] sp_wedges (tConsF (tVar 0) tNilA))) (gNameD 3) (tTst (tCallD [] sp_has_east (tConsF (tOp2 gIx (tVar 3) (tK (.int 0))) (tConsF (tOp2 gIx (tVar 3) (tK (.int 1))) tNilA)))) (tVar 3) [3]) tNilA)) (tK (.int 1)))) (tRaiseC "NoRound" "where" "at" (tConsF (tK (.str "not once round")) (tConsF (tK (.str "turns")) (tConsF (tK (.int 0)) tNilA)))) tNextD))))
theorem vc_look_round : ∀ ws Q E, sp_look_round ws Q E → t_look_round (endsOf [] ws Q E) (startD N_look_round ws) := by
  rintro ws Q E ⟨d, rfl, ok, h1, h2⟩
  match d, ok, h1, h2 with
  | .list xs, ok, h1, h2 =>
    obtain ⟨hl, hb⟩ := ok xs rfl
    refine seq_cut (fun ρ => 3 ≤ xs.length ∧ ρ = [some (.val (.list xs)), none, none, none]) (fun K hK => ?_) ?_
    · refine brD (fun c => ?_) (fun c => hK _ ⟨?_, rfl⟩)
      · have c : (xs.length : Int) < 3 := c
        refine h2 "round" 0 ?_
        show (if xs.length < 3 then _ else _) = _
        rw [if_pos (by omega)]
      · have c : ¬ (xs.length : Int) < 3 := c
        omega
    rintro ρ ⟨h3, rfl⟩
    have f3 : flt (.list xs) = match rayF 0 xs with | some i => some ("ray", i) | none => fltP (xs.map toP) := by
      show (if xs.length < 3 then _ else _) = _
      rw [if_neg (by omega)]
    refine seq_cut (fun ρ => rayF 0 xs = none ∧ ∃ a b, ρ = [some (.val (.list xs)), a, b, none]) (fun K hK => ?_) ?_
    · have e : ((xs.zipIdx 0).map fun p : D × Nat => PyData.tuple [.int (p.2 : Nat), p.1]) = ((xs.map id).zipIdx 0).map fun p => .tuple [.int (p.2 : Nat), p.1] := by rw [List.map_id]
      show loopD _ _ _ _ (enD xs) _
      unfold enD
      rw [e]
      refine loop_enum id (fun i post ρ => rayF 0 xs = rayF i post ∧ ∃ a b, ρ = [some (.val (.list xs)), a, b, none]) ?_ ?_ xs 0 _ ⟨rfl, _, _, rfl⟩
      · rintro i x post ρ ⟨hf, a, b, rfl⟩ k hk
        refine ⟨x, rfl, brB (fun c => ?_) (fun c => ?_)⟩
        · have c : rayB x = false := by simpa using c
          refine h2 "ray" i ?_
          have e2 : rayF i (x :: post) = some i := by
            unfold rayF
            rw [if_neg (by rw [c]; decide)]
          rw [f3, hf, e2]
        · have c : rayB x = true := by simpa using c
          refine ⟨srcN, hk _ ⟨?_, _, _, rfl⟩⟩
          rw [hf]
          show (if rayB x = true then _ else _) = _
          rw [if_pos c]
      · rintro i ρ ⟨hf, a, b, rfl⟩
        exact hK _ ⟨hf, a, b, rfl⟩
    rintro ρ ⟨hr, a, b, rfl⟩
    obtain ⟨ep, _⟩ := rayF_none hr
    obtain ⟨l, hl2⟩ : ∃ l, l = xs.map toP := ⟨_, rfl⟩
    rw [← hl2] at ep
    subst ep
    have ll : l.length = (prs l).length := (List.length_map _).symm
    have hs : ∀ p ∈ l, Bd 5000 p.1 ∧ Bd 5000 p.2 := fun p hp => hb p (List.mem_map.mpr ⟨p, hp, rfl⟩)
    have bg : ∀ p ∈ l, Big p.1 ∧ Big p.2 := fun p hp => ⟨(hs p hp).1.mono (by decide), (hs p hp).2.mono (by decide)⟩
    rw [hr, toP_prs] at f3
    have f4 : flt (.list (prs l)) = fltP l := f3
    refine seq_cut (fun ρ => wedF 0 (steps l) = none ∧ ∃ a b c, nl c ∧ ρ = [some (.val (.list (prs l))), a, b, c]) (fun K hK => ?_) ?_
    · refine ⟨l, rfl, by omega, ?_⟩
      refine loop_enum wd (fun i post ρ => (∀ x ∈ post, x ∈ steps l) ∧ wedF 0 (steps l) = wedF i post ∧ ∃ a b c, nl c ∧ ρ = [some (.val (.list (prs l))), a, b, c]) ?_ ?_ (steps l) 0 _ ⟨fun _ h => h, rfl, _, _, _, nl_none, rfl⟩
      · rintro i x post ρ ⟨hm, hf, a, b, c, nc, rfl⟩ k hk
        obtain ⟨m1, m2⟩ := steps_mem (hm x (by simp))
        obtain ⟨b1, b2⟩ := bg _ m1
        obtain ⟨b3, b4⟩ := bg _ m2
        refine ⟨x.1.1, x.1.2, x.2.1, x.2.2, rfl, b1.ok b4, b2.ok b3, brD (fun c => ?_) (fun c => ?_)⟩
        · have c : cr x.1 x.2 ≤ 0 := c
          refine h2 "wedge" i ?_
          have e2 : wedF i (x :: post) = some i := by
            unfold wedF
            rw [if_pos c]
          rw [f4]
          unfold fltP
          rw [hf, e2]
        · have c : ¬ cr x.1 x.2 ≤ 0 := c
          refine ⟨srcN, hk _ ⟨fun y hy => hm y (by simp [hy]), ?_, _, _, _, nl_val, rfl⟩⟩
          rw [hf]
          show (if _ then _ else _) = _
          rw [if_neg c]
      · rintro i ρ ⟨_, hf, a, b, c, nc, rfl⟩
        exact hK _ ⟨hf, a, b, c, nc, rfl⟩
    rintro ρ ⟨hw, a, b, c, nc, rfl⟩
    refine ⟨l, rfl, by omega, ?_⟩
    have sl : (steps l).length ≤ l.length := by
      unfold steps
      rw [List.length_zip]
      omega
    refine lc_filt wd wd (fun w => est w.1 w.2) (steps l) (by omega) (nO1' rfl nc) ?_ fun w hw acc k k1 k2 => ?_
    · refine ⟨rfl, rfl, brNe (fun z => h2 "turns" 0 ?_) (fun z => h1 ?_)⟩
      · have z : ¬ ((((((steps l).filter fun w => est w.1 w.2).map wd).length : Nat) : Int) = 1) := z
        rw [List.length_map] at z
        rw [f4]
        unfold fltP
        rw [hw]
        show (if eastN l = 1 then _ else _) = _
        unfold eastN
        rw [if_neg (by omega)]
      · have z : ((((((steps l).filter fun w => est w.1 w.2).map wd).length : Nat) : Int) = 1) := z
        rw [List.length_map] at z
        rw [f4]
        unfold fltP
        rw [hw]
        show (if eastN l = 1 then _ else _) = _
        unfold eastN
        rw [if_pos (by omega)]
    · obtain ⟨m1, m2⟩ := steps_mem hw
      obtain ⟨b1, b2⟩ := bg _ m1
      obtain ⟨b3, b4⟩ := bg _ m2
      refine ⟨w.1, w.2, rfl, b1, b2, b3, b4, brB (fun c => ⟨srcN, k1 c⟩) (fun c => ⟨srcN, k2 c⟩)⟩
  | .none, ok, h1, h2 => exact h2 "round" 0 rfl
  | .bool b, ok, h1, h2 => exact h2 "round" 0 rfl
  | .int b, ok, h1, h2 => exact h2 "round" 0 rfl
  | .str b, ok, h1, h2 => exact h2 "round" 0 rfl
  | .tuple b, ok, h1, h2 => exact h2 "round" 0 rfl
  | .dict b, ok, h1, h2 => exact h2 "round" 0 rfl
end RR

namespace RR
open PySem PySem.Spec L2
/-! ### rows gone through: the mathematics -/
def pth : Pt → Pt → List Int → List Pt
  | p, q, [] => [p, q]
  | p, q, a :: r => p :: pth q (nx p q a) r
def h1s (v : Pt) : Pt → Pt → List Int → Nat
  | _, _, [] => 0
  | p, q, a :: r => hb v p q + h1s v q (nx p q a) r
theorem hs_sum : ∀ {r : List Int} {p q : Pt}, hs p q r = h1s (1, 0) p q r + h1s (-1, 0) p q r
  | [], _, _ => rfl
  | a :: r, p, q => by
    show hx p q + hs q (nx p q a) r = hb (1, 0) p q + h1s (1, 0) q (nx p q a) r + (hb (-1, 0) p q + h1s (-1, 0) q (nx p q a) r)
    rw [hs_sum]
    unfold hx
    omega
def sd (v : Pt) : Int := if 0 < v.2 ∨ (v.2 = 0 ∧ v.1 < 0) then 1 else 0
theorem mul_one_sgn {x y : Int} (h : x * y = 1) : 0 < x ∧ 0 < y ∨ x < 0 ∧ y < 0 := by
  rcases Int.lt_trichotomy x 0 with hx | hx | hx
  · right
    refine ⟨hx, Classical.byContradiction fun n => ?_⟩
    have := Int.mul_nonneg (a := -x) (b := y) (by omega) (by omega)
    rw [Int.neg_mul, h] at this
    omega
  · rw [hx, Int.zero_mul] at h
    cases h
  · left
    refine ⟨hx, Classical.byContradiction fun n => ?_⟩
    have := Int.mul_nonneg (a := x) (b := -y) (by omega) (by omega)
    rw [Int.mul_neg, h] at this
    omega
theorem sd_zero {a b : Pt} (h : cr a b = 1) (e : a.2 = 0) : 0 < a.1 ∧ 0 < b.2 ∨ a.1 < 0 ∧ b.2 < 0 := by
  unfold cr at h
  rw [e, Int.zero_mul, Int.sub_zero] at h
  rcases mul_one_sgn h with ⟨x, y⟩ | ⟨x, y⟩ <;> omega
theorem sd_zero' {a b : Pt} (h : cr a b = 1) (e : b.2 = 0) : 0 < a.2 ∧ b.1 < 0 ∨ a.2 < 0 ∧ 0 < b.1 := by
  unfold cr at h
  rw [e, Int.mul_zero, Int.zero_sub] at h
  have h2 : a.2 * (-b.1) = 1 := by rw [Int.mul_neg]; exact h
  rcases mul_one_sgn h2 with ⟨x, y⟩ | ⟨x, y⟩ <;> omega
theorem hb_sd {a b : Pt} (h : cr a b = 1) : (hb (1, 0) a b : Int) - hb (-1, 0) a b = sd b - sd a := by
  rw [hb1, hb2]
  unfold sd
  have z := sd_zero h
  have z' := sd_zero' h
  split <;> split <;> split <;> split <;> omega
theorem h1s_sd : ∀ {r : List Int} {p q : Pt}, cr p q = 1 → (h1s (1, 0) p q r : Int) - h1s (-1, 0) p q r = sd (en p q r).1 - sd p
  | [], p, q, _ => by
    show (0 : Int) - 0 = sd p - sd p
    omega
  | a :: r, p, q, c => by
    have i := h1s_sd (r := r) (p := q) (q := nx p q a) (by rw [nx_cr]; exact c)
    have k := hb_sd c
    show ((hb (1, 0) p q + h1s (1, 0) q (nx p q a) r : Nat) : Int) - ((hb (-1, 0) p q + h1s (-1, 0) q (nx p q a) r : Nat) : Int) = sd (en q (nx p q a) r).1 - sd p
    omega
/-- twelve for each time round -/
theorem twelve {r : List Int} {p q : Pt} (c : cr p q = 1) (h : en p q r = (p, q)) : 12 * (h1s (1, 0) p q r : Int) = r.sum + 3 * r.length := by
  have s := six r.length p q r (Nat.le_refl _) c (.inl h)
  have d := h1s_sd (r := r) c
  rw [h] at d
  rw [hs_sum] at s
  show _
  have d : (h1s (1, 0) p q r : Int) - h1s (-1, 0) p q r = sd p - sd p := d
  omega
theorem pth_length : ∀ {r : List Int} {p q : Pt}, (pth p q r).length = r.length + 2
  | [], _, _ => rfl
  | a :: r, p, q => by
    show (pth q (nx p q a) r).length + 1 = _
    rw [pth_length]
    rfl
theorem pth_end : ∀ {r : List Int} {p q : Pt}, ∃ ini : List Pt, ini.length = r.length ∧ pth p q r = ini ++ [(en p q r).1, (en p q r).2]
  | [], p, q => ⟨[], rfl, rfl⟩
  | a :: r, p, q => by
    obtain ⟨ini, e1, e2⟩ := pth_end (r := r) (p := q) (q := nx p q a)
    exact ⟨p :: ini, by rw [List.length_cons, e1]; rfl, by show p :: pth q (nx p q a) r = _; rw [e2]; rfl⟩
theorem pth_snoc : ∀ {r : List Int} {a : Int} {p q : Pt}, pth p q (r ++ [a]) = pth p q r ++ [nx (en p q r).1 (en p q r).2 a]
  | [], a, p, q => rfl
  | b :: r, a, p, q => by
    show p :: pth q (nx p q b) (r ++ [a]) = p :: pth q (nx p q b) r ++ _
    rw [pth_snoc]
    rfl
theorem pth_head {r : List Int} {p q : Pt} : gp (pth p q r) 0 = p ∧ gp (pth p q r) 1 = q := by
  cases r with
  | nil => exact ⟨rfl, rfl⟩
  | cons a r =>
    cases r with
    | nil => exact ⟨rfl, rfl⟩
    | cons b r => exact ⟨rfl, rfl⟩
theorem pth_cr : ∀ {r : List Int} {p q : Pt} {k : Nat}, cr p q = 1 → k ≤ r.length → cr (gp (pth p q r) k) (gp (pth p q r) (k + 1)) = 1
  | [], p, q, k, c, h => by
    obtain rfl : k = 0 := by simpa using h
    exact c
  | a :: r, p, q, 0, c, h => by
    rw [pth_head.1, pth_head.2]
    exact c
  | a :: r, p, q, k + 1, c, h => pth_cr (r := r) (p := q) (q := nx p q a) (k := k) (by rw [nx_cr]; exact c) (by simpa using h)
theorem h1s_range {v : Pt} : ∀ {r : List Int} {p q : Pt}, ((List.range r.length).map fun k => ((hb v (gp (pth p q r) k) (gp (pth p q r) (k + 1)) : Nat) : Int)).sum = (h1s v p q r : Nat)
  | [], p, q => rfl
  | a :: r, p, q => by
    rw [List.length_cons, List.range_succ_eq_map, List.map_cons, List.sum_cons, List.map_map, pth_head.1, pth_head.2]
    have i := h1s_range (v := v) (r := r) (p := q) (q := nx p q a)
    show (hb v p q : Int) + _ = ((hb v p q + h1s v q (nx p q a) r : Nat) : Int)
    rw [Int.natCast_add, ← i]
    rfl
def rowOk (r : List Int) : Prop := (∀ x ∈ r, Bd 20 x) ∧ r.length ≤ 60
/-- a place from the end -/
theorem at_end1 {ini : List Pt} {a b : Pt} : atI (prs (ini ++ [a, b])) (-1) = some (pd b) := by
  unfold atI ixN
  rw [if_neg (by omega), if_pos (by rw [List.length_map, List.length_append]; simp; omega)]
  show (prs (ini ++ [a, b]))[_]? = _
  rw [List.getElem?_map, show (-1 + ((prs (ini ++ [a, b])).length : Int)).toNat = ini.length + 1 by rw [List.length_map, List.length_append]; simp; omega]
  rw [List.getElem?_append_right (by omega)]
  simp
theorem at_end2 {ini : List Pt} {a b : Pt} : atI (prs (ini ++ [a, b])) (-2) = some (pd a) := by
  unfold atI ixN
  rw [if_neg (by omega), if_pos (by rw [List.length_map, List.length_append]; simp; omega)]
  show (prs (ini ++ [a, b]))[_]? = _
  rw [List.getElem?_map, show (-2 + ((prs (ini ++ [a, b])).length : Int)).toNat = ini.length by rw [List.length_map, List.length_append]; simp; omega]
  rw [List.getElem?_append_right (by omega)]
  simp
theorem cut_end2 {ini : List Pt} {a b : Pt} : cutD (prs (ini ++ [a, b])) (some (-2)) none = prs [a, b] := by
  unfold cutD
  have e : HT.sIx (prs (ini ++ [a, b])).length 0 (some (-2)) = ini.length := by
    show (if (-2 : Int) < 0 then (-2 + ((prs (ini ++ [a, b])).length : Int)).toNat else min (-2 : Int).toNat (prs (ini ++ [a, b])).length) = _
    rw [if_pos (by decide), List.length_map, List.length_append]
    simp
    omega
  rw [e, HT.sIx_none, List.take_of_length_le (by rw [List.length_drop]; omega)]
  show ((ini ++ [a, b]).map pd).drop _ = _
  rw [← List.map_drop, List.drop_left]
theorem en_snoc {r : List Int} {a : Int} {p q : Pt} : en p q (r ++ [a]) = ((en p q r).2, nx (en p q r).1 (en p q r).2 a) := by
  rw [en_append]
  rfl
def BdP (n : Nat) (p : Pt) : Prop := Bd n p.1 ∧ Bd n p.2
theorem BdP.mono {n m : Nat} {p : Pt} (h : BdP n p) (k : n ≤ m) : BdP m p := ⟨h.1.mono k, h.2.mono k⟩
theorem nx_bd {p q : Pt} {a : Int} {m : Nat} (hp : BdP m p) (hq : BdP m q) (ha : Bd 20 a) : BdP (m + 21) (nx p q a) := by
  constructor
  · exact ((Bd.add hp.1 (ha.mul hq.1)).neg).mono (by omega)
  · exact ((Bd.add hp.2 (ha.mul hq.2)).neg).mono (by omega)
theorem en_bd : ∀ {r : List Int} {p q : Pt} {m : Nat}, BdP m p → BdP m q → (∀ a ∈ r, Bd 20 a) → BdP (m + 21 * r.length) (en p q r).1 ∧ BdP (m + 21 * r.length) (en p q r).2
  | [], p, q, m, hp, hq, _ => ⟨hp, hq⟩
  | a :: r, p, q, m, hp, hq, h => by
    obtain ⟨x, y⟩ := en_bd (r := r) (hq.mono (Nat.le_add_right m 21)) (nx_bd hp hq (h a (by simp))) (fun b hb => h b (by simp [hb]))
    rw [List.length_cons]
    exact ⟨x.mono (by omega), y.mono (by omega)⟩
/-- the row's direction (1, 0), as the law asks for it -/
theorem east_hb {a b : Pt} (h : cr a b = 1) : ((hb (1, 0) a b : Nat) : Int) = if a.2 = 0 ∧ 0 < a.1 then 1 else if a.2 < 0 ∧ 0 < b.2 then 1 else 0 := by
  rw [hb1]
  have z := sd_zero h
  split <;> split <;> first | omega | (split <;> omega)
def dueOf (r : List Int) : Int := if en (1, 0) (0, 1) r = ((1, 0), (0, 1)) then (h1s (1, 0) (1, 0) (0, 1) r : Nat) else 0
theorem due_twelve {r : List Int} (h : en (1, 0) (0, 1) r = ((1, 0), (0, 1))) : 12 * dueOf r = r.sum + 3 * r.length := by
  unfold dueOf
  rw [if_pos h]
  exact twelve (by decide) h
theorem at_int {xs : List Int} {i : Nat} {n : Int} (h : xs[i]? = some n) : atI (xs.map PyData.int) (i : Int) = some (.int n) := atI_nat (by rw [List.getElem?_map, h]; rfl)
theorem ix_int {xs : List Int} {i : Nat} (h : i < xs.length) : ixN (xs.map PyData.int).length (i : Int) = some i := by
  unfold ixN
  rw [if_pos (by omega), List.length_map, if_pos (by omega)]
  rfl
theorem shpP (p : Pt) : SeqAt.shaped (pd p) = true := pl_shaped (pl_pd p) (by decide)
theorem brNeP {p q : Pt} {A B : Prop} (h1 : p ≠ q → A) (h2 : p = q → B) : br (!PyData.eqv (pd p) (pd q)) A B := by
  rw [eqv_pd]
  by_cases e : p = q
  · rw [decide_eq_true e]; exact h2 e
  · rw [decide_eq_false e]; exact h1 e
theorem brNeL {p q : List Pt} {A B : Prop} (h1 : p ≠ q → A) (h2 : p = q → B) : br (!PyData.eqv (.list (prs p)) (.list (prs q))) A B := by
  rw [eqv_prs']
  by_cases e : p = q
  · rw [decide_eq_true e]; exact h2 e
  · rw [decide_eq_false e]; exact h1 e
theorem nx_sub (p q : Pt) (a : Int) : nx p q a = (0 - a * q.1 - p.1, 0 - a * q.2 - p.2) := by
  unfold nx
  exact Prod.ext (show -(p.1 + a * q.1) = 0 - a * q.1 - p.1 by omega) (show -(p.2 + a * q.2) = 0 - a * q.2 - p.2 by omega)
theorem nx_sc (p q : Pt) (a : Int) : sc (-1) (sm p (sc a q)) = nx p q a := by
  unfold nx sc sm
  exact Prod.ext (show -1 * (p.1 + a * q.1) = -(p.1 + a * q.1) by omega) (show -1 * (p.2 + a * q.2) = -(p.2 + a * q.2) by omega)
theorem pth_bd : ∀ {r : List Int} {p q : Pt} {m : Nat}, BdP m p → BdP m q → (∀ a ∈ r, Bd 20 a) → ∀ x ∈ pth p q r, BdP (m + 21 * r.length) x
  | [], p, q, m, hp, hq, _, x, hx => by
    have hx : x ∈ [p, q] := hx
    simp only [List.mem_cons, List.not_mem_nil, or_false] at hx
    rcases hx with rfl | rfl
    · exact hp
    · exact hq
  | a :: r, p, q, m, hp, hq, h, x, hx => by
    rw [List.length_cons]
    rcases List.mem_cons.mp hx with rfl | hx
    · exact hp.mono (by omega)
    · exact (pth_bd (r := r) (hq.mono (Nat.le_add_right m 21)) (nx_bd hp hq (h a (by simp))) (fun b hb => h b (by simp [hb])) x hx).mono (by omega)
end RR

namespace RR
open PySem PySem.Spec L2
/-! ### rays between bend one way -/
def Conv : List Pt → Prop
  | a :: r :: n :: t => (∃ k : Int, 2 ≤ k ∧ sm a n = sc k r) ∧ Conv (r :: n :: t)
  | _ => True
theorem conv_of : ∀ {rs : List Pt} {a v : Pt} {ks : List Int}, Sums a rs v ks → (∀ k ∈ ks, 2 ≤ k) → Conv (a :: (rs ++ [v]))
  | [], a, v, _, _, _ => trivial
  | [r], a, v, k :: ks, h, h2 => ⟨⟨k, h2 k (by simp), h.1⟩, trivial⟩
  | [r], a, v, [], h, _ => h.elim
  | r :: n :: t, a, v, k :: ks, h, h2 => ⟨⟨k, h2 k (by simp), h.1⟩, conv_of h.2 fun k hk => h2 k (by simp [hk])⟩
  | r :: n :: t, a, v, [], h, _ => h.elim
theorem conv_tail {a : Pt} {l : List Pt} (h : Conv (a :: l)) : Conv l := by
  match l, h with
  | [], _ => trivial
  | [_], _ => trivial
  | _ :: _ :: _, h => exact h.2
theorem conv_drop : ∀ {p l : List Pt}, Conv (p ++ l) → Conv l
  | [], _, h => h
  | a :: p, l, h => conv_drop (p := p) (conv_tail h)
theorem conv_snoc : ∀ {l : List Pt} {r n a : Pt}, Conv (l ++ [r, n]) → (∃ k : Int, 2 ≤ k ∧ sm r a = sc k n) → Conv (l ++ [r, n, a])
  | [], r, n, a, _, h => ⟨h, trivial⟩
  | [x], r, n, a, c, h => ⟨c.1, h, trivial⟩
  | x :: y :: l, r, n, a, c, h => by
    match l, c with
    | [], c => exact ⟨c.1, c.2.1, h, trivial⟩
    | z :: l, c => exact ⟨c.1, conv_snoc (l := y :: z :: l) c.2 h⟩
theorem conv_rev : ∀ {l : List Pt}, Conv l → Conv l.reverse
  | [], _ => trivial
  | [a], _ => trivial
  | [a, b], _ => trivial
  | a :: r :: n :: t, h => by
    have ih := conv_rev (l := r :: n :: t) h.2
    rw [List.reverse_cons, List.reverse_cons] at ih
    rw [List.reverse_cons, List.reverse_cons, List.reverse_cons]
    have e : t.reverse ++ [n] ++ [r] = t.reverse ++ [n, r] := by simp
    have e2 : t.reverse ++ [n] ++ [r] ++ [a] = t.reverse ++ [n, r, a] := by simp
    have ih2 : Conv (t.reverse ++ [n, r]) := by
      rw [← e]
      exact ih
    rw [e2]
    obtain ⟨k, h2, hk⟩ := h.1
    refine conv_snoc ih2 ⟨k, h2, ?_⟩
    rw [← hk]
    unfold sm
    exact Prod.ext (Int.add_comm ..) (Int.add_comm ..)
/-- what a linear thing tells, going on -/
theorem conv_ge {d : Pt} : ∀ {t : List Pt} {a r : Pt}, Conv (a :: r :: t) → cr a d ≤ cr r d → 1 ≤ cr r d → ∀ x ∈ t, 1 ≤ cr x d
  | [], _, _, _, _, _, x, hx => by simp at hx
  | n :: t, a, r, c, h1, h2, x, hx => by
    obtain ⟨⟨k, k2, e⟩, c⟩ := c
    have e2 : cr a d = k * cr r d - cr n d := by
      have z1 : a.1 + n.1 = k * r.1 := congrArg Prod.fst e
      have z2 : a.2 + n.2 = k * r.2 := congrArg Prod.snd e
      unfold cr
      have : a.1 * d.2 - a.2 * d.1 = (a.1 + n.1) * d.2 - (a.2 + n.2) * d.1 - (n.1 * d.2 - n.2 * d.1) := by grind
      rw [this, z1, z2]
      grind
    have m := Int.mul_le_mul_of_nonneg_right k2 (show 0 ≤ cr r d by omega)
    rcases List.mem_cons.mp hx with rfl | hx
    · omega
    · exact conv_ge c (by omega) (by omega) x hx
/-- .. and both ways -/
theorem conv_all {d : Pt} {p t : List Pt} {a r : Pt} (h : Conv (p ++ a :: r :: t)) (ha : cr a d = 1) (hr : cr r d = 1) : ∀ x ∈ p ++ a :: r :: t, 1 ≤ cr x d := by
  intro x hx
  have f := conv_ge (conv_drop h) (show cr a d ≤ cr r d by omega) (show 1 ≤ cr r d by omega)
  have hr2 := conv_rev h
  have e : (p ++ a :: r :: t).reverse = t.reverse ++ r :: a :: p.reverse := by simp
  rw [e] at hr2
  have b := conv_ge (conv_drop hr2) (show cr r d ≤ cr a d by omega) (show 1 ≤ cr a d by omega)
  rcases List.mem_append.mp hx with z | z
  · exact b x (List.mem_reverse.mpr z)
  · rcases List.mem_cons.mp z with rfl | z
    · omega
    · rcases List.mem_cons.mp z with rfl | z
      · omega
      · exact f x z
/-- a show: of a list's k-th ray and the next one -/
def shP (p n : Pt) : Pt := (n.2 - p.2, p.1 - n.1)
def sh (xs : List Pt) (k : Nat) : Pt := shP (xs[k]?.getD (0, 0)) (xs[k + 1]?.getD (0, 0))
def dtt (p q : Pt) : Int := p.1 * q.1 + p.2 * q.2
theorem sh_cr (p n x : Pt) : dtt (shP p n) x = cr x (sb n p) := by
  unfold dtt shP cr sb
  show (n.2 - p.2) * x.1 + (p.1 - n.1) * x.2 = x.1 * (n.2 - p.2) - x.2 * (n.1 - p.1)
  grind
theorem cut_prs (l : List Pt) (lo hi : Option Int) : ∃ m, cutD (prs l) lo hi = prs m ∧ (∀ x ∈ m, x ∈ l) ∧ m.length ≤ l.length := by
  unfold cutD
  refine ⟨(l.drop (HT.sIx (prs l).length 0 lo)).take (HT.sIx (prs l).length (prs l).length hi - HT.sIx (prs l).length 0 lo), ?_, fun x hx => List.mem_of_mem_drop (List.mem_of_mem_take hx), ?_⟩
  · show List.take _ (List.drop _ (List.map pd l)) = List.map pd _
    rw [List.map_take, List.map_drop]
  · rw [List.length_take, List.length_drop]
    omega
theorem ch_get : ∀ {rs : List Pt} {a v : Pt} {i : Nat} {p n : Pt}, Ch Uni a rs v → (rs ++ [v])[i]? = some p → (rs ++ [v])[i + 1]? = some n → Uni p n
  | [], a, v, i, p, n, h, h1, h2 => by simp at h2
  | [r], a, v, 0, p, n, h, h1, h2 => by
    simp at h1 h2
    subst h1 h2
    exact h.2
  | r :: r2 :: rs, a, v, 0, p, n, h, h1, h2 => by
    simp at h1 h2
    subst h1 h2
    exact h.2.1
  | r :: rs, a, v, i + 1, p, n, h, h1, h2 => ch_get (i := i) h.2 (by simpa using h1) (by simpa using h2)
theorem split_at {α : Type} {l : List α} {i : Nat} {p n : α} (h1 : l[i]? = some p) (h2 : l[i + 1]? = some n) : ∃ t, l = l.take i ++ p :: n :: t := by
  obtain ⟨i1, e1⟩ := List.getElem?_eq_some_iff.mp h1
  obtain ⟨i2, e2⟩ := List.getElem?_eq_some_iff.mp h2
  refine ⟨l.drop (i + 2), ?_⟩
  have a := List.drop_eq_getElem_cons i1
  have b := List.drop_eq_getElem_cons i2
  rw [e1] at a
  rw [e2] at b
  rw [← b, ← a, List.take_append_drop]
end RR

namespace RR
open PySem PySem.Spec L2
/-! ### twelve, for rounds -/
theorem h1s_append {v : Pt} : ∀ {r s : List Int} {p q : Pt}, h1s v p q (r ++ s) = h1s v p q r + h1s v (en p q r).1 (en p q r).2 s
  | [], s, p, q => (Nat.zero_add _).symm
  | a :: r, s, p, q => by
    show hb v p q + h1s v q (nx p q a) (r ++ s) = hb v p q + h1s v q (nx p q a) r + _
    rw [h1s_append, Nat.add_assoc]
    rfl
/-- a row that leads along given rays -/
theorem en_along {f : Nat → Pt} {t : Nat → Int} : ∀ m : Nat, (∀ j < m, nx (f j) (f (j + 1)) (t j) = f (j + 2)) → en (f 0) (f 1) ((List.range m).map t) = (f m, f (m + 1)) ∧ ∀ v, h1s v (f 0) (f 1) ((List.range m).map t) = ((List.range m).map fun j => hb v (f j) (f (j + 1))).sum
  | 0, _ => ⟨rfl, fun _ => rfl⟩
  | m + 1, h => by
    obtain ⟨e1, e2⟩ := en_along m (fun j hj => h j (by omega))
    rw [List.range_succ, List.map_append, List.map_cons, List.map_nil]
    refine ⟨?_, fun v => ?_⟩
    · rw [en_snoc, e1]
      show (f (m + 1), nx (f m) (f (m + 1)) (t m)) = _
      rw [h m (by omega)]
    · rw [List.map_append, List.sum_append_nat, h1s_append, e2 v, e1]
      rfl
theorem cn_gp {v : Pt} : ∀ {l : List Pt} {a b : Pt}, cn v a l b = ((List.range (l.length + 1)).map fun j => hb v (gp (a :: (l ++ [b])) j) (gp (a :: (l ++ [b])) (j + 1))).sum
  | [], a, b => rfl
  | x :: l, a, b => by
    have i := cn_gp (v := v) (l := l) (a := x) (b := b)
    rw [List.length_cons, List.range_succ_eq_map, List.map_cons, List.sum_cons, List.map_map]
    show hb v a x + cn v x l b = _
    rw [i]
    rfl
theorem gp_cyc {a : Pt} {l : List Pt} {j : Nat} (h : j ≤ l.length + 1) : gp (a :: (l ++ [a])) j = gp (a :: l) (j % (l.length + 1)) := by
  by_cases e : j = l.length + 1
  · subst e
    rw [Nat.mod_self]
    unfold gp
    rw [List.getElem?_cons_succ, List.getElem?_append_right (Nat.le_refl _), Nat.sub_self]
    rfl
  · rw [Nat.mod_eq_of_lt (by omega)]
    unfold gp
    rw [← List.cons_append, List.getElem?_append_left (by rw [List.length_cons]; omega)]
theorem cnt_gp {v : Pt} {l : List Pt} (h : 0 < l.length) : cnt v l = ((List.range l.length).map fun j => hb v (gp l (j % l.length)) (gp l ((j + 1) % l.length))).sum := by
  cases l with
  | nil => simp at h
  | cons a l =>
    show cn v a l a = _
    rw [cn_gp, List.length_cons]
    congr 1
    refine List.map_congr_left fun j hj => ?_
    have := List.mem_range.mp hj
    rw [gp_cyc (by omega), gp_cyc (by omega)]
theorem sum_rot {n : Nat} (hn : 0 < n) (t : Nat → Int) : ((List.range n).map fun j => t ((j + 1) % n)).sum = ((List.range n).map t).sum := by
  obtain ⟨m, rfl⟩ : ∃ m, n = m + 1 := ⟨n - 1, by omega⟩
  have e1 : ((List.range (m + 1)).map fun j => t ((j + 1) % (m + 1))).sum = ((List.range m).map fun j => t (j + 1)).sum + t 0 := by
    rw [List.range_succ, List.map_append, List.sum_append_int]
    have a : (List.range m).map (fun j => t ((j + 1) % (m + 1))) = (List.range m).map fun j => t (j + 1) := List.map_congr_left fun j hj => by
      have := List.mem_range.mp hj
      rw [Nat.mod_eq_of_lt (by omega)]
    rw [a]
    show _ + (t ((m + 1) % (m + 1)) + 0) = _
    rw [Nat.mod_self]
    omega
  rw [e1, List.range_succ_eq_map, List.map_cons, List.sum_cons, List.map_map]
  show _ = t 0 + ((List.range m).map fun j => t (j + 1)).sum
  omega
theorem nx_tag {a r b : Pt} (h1 : Uni a r) (h2 : Uni r b) : nx a r (0 - cr a b) = b := by
  have e := smooth_sum h1 h2
  have e1 : a.1 + b.1 = cr a b * r.1 := congrArg Prod.fst e
  have e2 : a.2 + b.2 = cr a b * r.2 := congrArg Prod.snd e
  unfold nx
  refine Prod.ext ?_ ?_
  · show -(a.1 + (0 - cr a b) * r.1) = b.1
    rw [Int.sub_mul]
    omega
  · show -(a.2 + (0 - cr a b) * r.2) = b.2
    rw [Int.sub_mul]
    omega
theorem tags_twelve {l : List Pt} (hS : Smooth l) (h2 : 2 ≤ l.length) (ho : cnt (1, 0) l = 1) : (tags l).sum + 3 * l.length = 12 := by
  have u : ∀ j : Nat, Uni (gp l (j % l.length)) (gp l ((j + 1) % l.length)) := fun j => by
    have hm : j % l.length < l.length := Nat.mod_lt _ (by omega)
    have := smooth_next hS h2 hm
    rw [← nxI_mod hm, Nat.mod_add_mod] at this
    exact this
  have st : ∀ j < l.length, nx (gp l (j % l.length)) (gp l ((j + 1) % l.length)) (tagAt l ((j + 1) % l.length)) = gp l ((j + 2) % l.length) := fun j hj => by
    have hm : (j + 1) % l.length < l.length := Nat.mod_lt _ (by omega)
    have e1 : pvI l.length ((j + 1) % l.length) = j % l.length := by
      rw [← pvI_mod hm]
      by_cases e : j + 1 = l.length
      · rw [e, Nat.mod_self, Nat.mod_eq_of_lt (by omega), Nat.mod_eq_of_lt (by omega)]
        omega
      · rw [Nat.mod_eq_of_lt (show j + 1 < l.length by omega), show j + 1 + l.length - 1 = j + l.length by omega, Nat.add_mod_right]
    have e2 : nxI l.length ((j + 1) % l.length) = (j + 2) % l.length := by
      rw [← nxI_mod hm, Nat.mod_add_mod]
    have := nx_tag (u j) (u (j + 1))
    unfold tagAt
    rw [e1, e2]
    exact this
  obtain ⟨e1, e2⟩ := en_along (f := fun j => gp l (j % l.length)) (t := fun j => tagAt l ((j + 1) % l.length)) l.length st
  have c : cr (gp l (0 % l.length)) (gp l (1 % l.length)) = 1 := u 0
  have e3 : en (gp l (0 % l.length)) (gp l (1 % l.length)) ((List.range l.length).map fun j => tagAt l ((j + 1) % l.length)) = (gp l (0 % l.length), gp l (1 % l.length)) := by
    rw [e1]
    show (gp l (l.length % l.length), gp l ((l.length + 1) % l.length)) = _
    rw [Nat.mod_self, Nat.zero_mod, Nat.add_mod_left]
  have t := twelve c e3
  have e4 := e2 (1, 0)
  rw [← cnt_gp (by omega), ho] at e4
  rw [e4, sum_rot (by omega) (tagAt l), List.length_map, List.length_range] at t
  unfold tags
  omega
/-! ### least rounds -/
noncomputable def lrt : Pt → List Pt → Pt → List Pt
  | a, [], b => btw a b
  | a, x :: l, b => btw a x ++ x :: lrt x l b
noncomputable def lrd : List Pt → List Pt
  | [] => []
  | a :: l => a :: lrt a l a
theorem lrt_ch : ∀ {l : List Pt} {a b : Pt}, Ch Wdg a l b → Ch Uni a (lrt a l b) b
  | [], a, b, h => (btw_ch h).1
  | x :: l, a, b, h => ch_append.mpr ⟨(btw_ch h.1).1, lrt_ch h.2⟩
theorem cn_btw {v u w : Pt} : ∀ {rs : List Pt} {a : Pt}, Ch Uni a rs w → 0 < cr a w → (∀ r ∈ rs, 0 < cr r w) → cn v a rs w = hb v a w
  | [], a, _, _, _ => rfl
  | r :: rs, a, c, h, hr => by
    show hb v a r + cn v r rs w = _
    have h1 : cr a r = 1 := c.1
    rw [cn_btw (u := u) c.2 (hr r (by simp)) (fun x hx => hr x (by simp [hx])), hb_split (a := a) (m := r) (b := w) (show 0 < cr a r by omega) (hr r (by simp)) h]
theorem cn_lrt {v : Pt} : ∀ {l : List Pt} {a b : Pt}, Ch Wdg a l b → cn v a (lrt a l b) b = cn v a l b
  | [], a, b, h => cn_btw (u := a) (btw_ch h).1 h.pos (fun r hr => (btw_in h r hr).2.1)
  | x :: l, a, b, h => by
    show cn v a (btw a x ++ x :: lrt x l b) b = hb v a x + cn v x l b
    rw [cn_append, cn_lrt h.2, cn_btw (u := a) (btw_ch h.1).1 h.1.pos (fun r hr => (btw_in h.1 r hr).2.1)]
theorem lrt_in {M : Int} : ∀ {l : List Pt} {a b : Pt}, Ch Wdg a l b → In M a → In M b → (∀ x ∈ l, In M x) → ∀ x ∈ lrt a l b, In M x
  | [], a, b, h, ha, hb, _ => btw_bd h ha hb
  | y :: l, a, b, h, ha, hb, hl => fun x hx => by
    rcases List.mem_append.mp hx with q | q
    · exact btw_bd h.1 ha (hl y (by simp)) x q
    · rcases List.mem_cons.mp q with rfl | q
      · exact hl x (by simp)
      · exact lrt_in h.2 (hl y (by simp)) hb (fun z hz => hl z (by simp [hz])) x q
theorem btw_le {u v : Pt} (w : Wdg u v) : ((btw u v).length : Int) ≤ cr u v := by
  rw [btw_len]
  have := hj_len (n := cr u v) (q := qq u v)
  have := w.opn.1
  have := w.opn.2.1
  unfold rowW
  omega
theorem lrt_len {C : Nat} : ∀ {l : List Pt} {a b : Pt}, Ch (fun p q => Wdg p q ∧ cr p q ≤ C) a l b → (lrt a l b).length ≤ C * (l.length + 1) + l.length
  | [], a, b, h => by
    have := btw_le h.1
    have := h.2
    show (btw a b).length ≤ _
    simp
    omega
  | x :: l, a, b, h => by
    have := btw_le h.1.1
    have := h.1.2
    have i := lrt_len h.2
    show (btw a x ++ x :: lrt x l b).length ≤ _
    rw [List.length_append, List.length_cons, List.length_cons, Nat.mul_add C (l.length + 1) 1]
    omega
/-- all of it, wedge by wedge, with marks -/
noncomputable def mks : List (Pt × Pt) → List (Pt × Int)
  | [] => []
  | w :: ws => (w.1, 1) :: ((btw w.1 w.2).map fun r => (r, 0)) ++ mks ws
theorem mks_zip : ∀ {l : List Pt} {a b : Pt}, (mks ((a :: l).zip (l ++ [b]))).map Prod.fst = a :: lrt a l b
  | [], a, b => by
    show ((a, (1 : Int)) :: ((btw a b).map fun r => (r, (0 : Int))) ++ []).map Prod.fst = a :: btw a b
    rw [List.append_nil, List.map_cons, List.map_map]
    congr 1
    exact List.map_id _
  | x :: l, a, b => by
    show ((a, (1 : Int)) :: ((btw a x).map fun r => (r, (0 : Int))) ++ mks ((x :: l).zip (l ++ [b]))).map Prod.fst = a :: (btw a x ++ x :: lrt x l b)
    rw [List.map_append, mks_zip, List.map_cons, List.map_map]
    show a :: (btw a x).map id ++ _ = _
    rw [List.map_id]
    rfl
theorem mks_lrd {l : List Pt} : (mks (steps l)).map Prod.fst = lrd l := by
  cases l with
  | nil => rfl
  | cons a l => exact mks_zip
theorem lrd_smooth {l : List Pt} (h : Cyc Wdg l) : Smooth (lrd l) := by
  cases l with
  | nil => trivial
  | cons a l => exact lrt_ch h
theorem lrd_cnt {v : Pt} {l : List Pt} (h : Cyc Wdg l) : cnt v (lrd l) = cnt v l := by
  cases l with
  | nil => rfl
  | cons a l => exact cn_lrt h
theorem lrd_in {M : Int} {l : List Pt} (h : Cyc Wdg l) (hM : ∀ x ∈ l, In M x) : ∀ x ∈ lrd l, In M x := by
  cases l with
  | nil => exact fun x hx => by simp [lrd] at hx
  | cons a l =>
    intro x hx
    rcases List.mem_cons.mp hx with rfl | hx
    · exact hM x (by simp)
    · exact lrt_in h (hM a (by simp)) (hM a (by simp)) (fun y hy => hM y (by simp [hy])) x hx
theorem lrd_len {C : Nat} {l : List Pt} (h : Cyc (fun p q => Wdg p q ∧ cr p q ≤ C) l) : (lrd l).length ≤ (C + 1) * l.length ∧ l.length ≤ (lrd l).length := by
  cases l with
  | nil => exact ⟨Nat.zero_le _, Nat.le_refl _⟩
  | cons a l =>
    have i := lrt_len (l := l) (a := a) (b := a) h
    have k : ∀ (l : List Pt) (a b : Pt), l.length ≤ (lrt a l b).length := fun l => by
      induction l with
      | nil => exact fun _ _ => Nat.zero_le _
      | cons x l ih =>
        intro a b
        have := ih x b
        show l.length + 1 ≤ (btw a x ++ x :: lrt x l b).length
        rw [List.length_append, List.length_cons]
        omega
    have := k l a a
    show (lrt a l a).length + 1 ≤ (C + 1) * (l.length + 1) ∧ l.length + 1 ≤ (lrt a l a).length + 1
    rw [Nat.add_mul]
    omega
end RR

namespace RR
open PySem PySem.Spec L2
theorem est_hb {p q : Pt} (h : Ps p q) : hb (1, 0) p q = if est p q then 1 else 0 := by
  rw [hb1]
  have h : 0 < p.1 * q.2 - p.2 * q.1 := h
  unfold est
  by_cases z : p.2 = 0
  · rw [if_pos z]
    rw [z, Int.zero_mul, Int.sub_zero] at h
    by_cases c : 0 < p.1
    · have : 0 < q.2 := by
        rcases Int.lt_trichotomy q.2 0 with y | y | y
        · have := Int.mul_neg_of_pos_of_neg c y
          omega
        · rw [y, Int.mul_zero] at h
          omega
        · exact y
      rw [if_pos ⟨by omega, this⟩, decide_eq_true c]
      rfl
    · have : ¬ 0 < q.2 := fun y => by
        have := Int.mul_nonpos_of_nonpos_of_nonneg (show p.1 ≤ 0 by omega) (Int.le_of_lt y)
        omega
      rw [if_neg (fun w => this w.2), decide_eq_false c]
      rfl
  · rw [if_neg z]
    by_cases c : p.2 < 0
    · by_cases d : 0 < q.2
      · rw [if_pos ⟨by omega, d⟩, decide_eq_true c, decide_eq_true d]
        rfl
      · rw [if_neg (fun w => d w.2), decide_eq_false d, Bool.and_false]
        rfl
    · rw [if_neg (fun w => c (by omega)), decide_eq_false c, Bool.false_and]
      rfl
theorem est_cn : ∀ {l : List Pt} {a b : Pt}, Ch Ps a l b → cn (1, 0) a l b = (((a :: l).zip (l ++ [b])).filter fun w => est w.1 w.2).length
  | [], a, b, h => by
    show hb (1, 0) a b = _
    rw [est_hb h]
    show _ = (([(a, b)]).filter fun w => est w.1 w.2).length
    by_cases c : est a b = true
    · simp [c]
    · simp [c]
  | x :: l, a, b, h => by
    show hb (1, 0) a x + cn (1, 0) x l b = _
    rw [est_hb h.1, est_cn h.2]
    show _ = ((((a, x) :: (x :: l).zip (l ++ [b]))).filter fun w => est w.1 w.2).length
    rw [List.filter_cons]
    by_cases c : est a x = true
    · simp [c]
      omega
    · simp [c]
theorem east_cnt {l : List Pt} (h : Cyc Ps l) : eastN l = cnt (1, 0) l := by
  cases l with
  | nil => rfl
  | cons a t => exact (est_cn h).symm
/-! ### what turns on goes round -/
theorem cr_trans_pos {p q r : Pt} (hp : 0 < p.2) (hq : 0 < q.2) (hr : 0 < r.2) (h1 : 0 < cr p q) (h2 : 0 < cr q r) : 0 < cr p r := by
  have e : q.2 * cr p r = p.2 * cr q r + r.2 * cr p q := by unfold cr; grind
  have a := Int.mul_pos hp h2
  have b := Int.mul_pos hr h1
  rcases Int.lt_trichotomy (cr p r) 0 with y | y | y
  · have := Int.mul_neg_of_pos_of_neg hq y
    omega
  · rw [y, Int.mul_zero] at e
    omega
  · exact y
theorem cr_trans_neg {p q r : Pt} (hp : p.2 < 0) (hq : q.2 < 0) (hr : r.2 < 0) (h1 : 0 < cr p q) (h2 : 0 < cr q r) : 0 < cr p r := by
  have e : q.2 * cr p r = p.2 * cr q r + r.2 * cr p q := by unfold cr; grind
  have a := Int.mul_neg_of_neg_of_pos hp h2
  have b := Int.mul_neg_of_neg_of_pos hr h1
  rcases Int.lt_trichotomy (cr p r) 0 with y | y | y
  · have := Int.mul_pos_of_neg_of_neg hq y
    omega
  · rw [y, Int.mul_zero] at e
    omega
  · exact y
theorem up_all : ∀ {l : List Pt} {a b : Pt}, Ch Ps a l b → (∀ x ∈ l, 0 < x.2) → 0 < a.2 → 0 < b.2 → 0 < cr a b
  | [], a, b, h, _, _, _ => h
  | x :: l, a, b, h, hl, ha, hb => cr_trans_pos ha (hl x (by simp)) hb h.1 (up_all h.2 (fun y hy => hl y (by simp [hy])) (hl x (by simp)) hb)
theorem zero_next {a x : Pt} (h : Ps a x) (z : a.2 = 0) (hb0 : hb (1, 0) a x = 0) : x.2 < 0 ∧ a.1 < 0 := by
  rw [hb1] at hb0
  have h : 0 < a.1 * x.2 - a.2 * x.1 := h
  rw [z, Int.zero_mul, Int.sub_zero] at h
  have nx : ¬ 0 < x.2 := fun y => by rw [if_pos ⟨by omega, y⟩] at hb0; cases hb0
  have x0 : x.2 ≠ 0 := fun y => by rw [y, Int.mul_zero] at h; omega
  refine ⟨by omega, ?_⟩
  rcases Int.lt_trichotomy a.1 0 with y | y | y
  · exact y
  · rw [y, Int.zero_mul] at h; omega
  · have := Int.mul_neg_of_pos_of_neg y (show x.2 < 0 by omega)
    omega
theorem down_one {a b : Pt} (h : Ps a b) (hc : hb (1, 0) a b = 0) (ha : a.2 < 0) : (b.2 < 0 ∧ 0 < cr a b) ∨ (b.2 = 0 ∧ 0 < b.1) := by
  rw [hb1] at hc
  have nb : ¬ 0 < b.2 := fun y => by rw [if_pos ⟨by omega, y⟩] at hc; cases hc
  by_cases z : b.2 = 0
  · have h : 0 < a.1 * b.2 - a.2 * b.1 := h
    rw [z, Int.mul_zero] at h
    refine .inr ⟨z, ?_⟩
    rcases Int.lt_trichotomy b.1 0 with y | y | y
    · have := Int.mul_pos_of_neg_of_neg ha y
      omega
    · rw [y, Int.mul_zero] at h; omega
    · exact y
  · exact .inl ⟨by omega, h⟩
theorem down_all : ∀ {l : List Pt} {a b : Pt}, Ch Ps a l b → cn (1, 0) a l b = 0 → a.2 < 0 → (b.2 < 0 ∧ 0 < cr a b) ∨ (b.2 = 0 ∧ 0 < b.1)
  | [], a, b, h, hc, ha => down_one h hc ha
  | x :: l, a, b, h, hc, ha => by
    have hc : hb (1, 0) a x + cn (1, 0) x l b = 0 := hc
    have c1 : hb (1, 0) a x = 0 := by omega
    have c2 : cn (1, 0) x l b = 0 := by omega
    rcases down_one h.1 c1 ha with ⟨hx, k⟩ | ⟨hx, k⟩
    · rcases down_all h.2 c2 hx with ⟨q1, q2⟩ | q
      · exact .inl ⟨q1, cr_trans_neg ha hx q1 k q2⟩
      · exact .inr q
    · cases l with
      | nil =>
        have := (zero_next h.2 hx c2).2
        omega
      | cons y l =>
        have h2 : Ps x y := h.2.1
        have c3 : hb (1, 0) x y = 0 := by
          have c2 : hb (1, 0) x y + cn (1, 0) y l b = 0 := c2
          omega
        have := (zero_next h2 hx c3).2
        omega
theorem down_cyc {l : List Pt} {a : Pt} (h : Cyc Ps (a :: l)) (hc : cnt (1, 0) (a :: l) = 0) (ha : a.2 ≤ 0) : False := by
  have h : Ch Ps a l a := h
  have hc : cn (1, 0) a l a = 0 := hc
  by_cases z : a.2 = 0
  · cases l with
    | nil =>
      have := zero_next h z hc
      omega
    | cons x l =>
      have hc : hb (1, 0) a x + cn (1, 0) x l a = 0 := hc
      obtain ⟨x1, x2⟩ := zero_next h.1 z (by omega)
      rcases down_all h.2 (by omega) x1 with ⟨q, _⟩ | ⟨_, q⟩ <;> omega
  · rcases down_all h hc (by omega) with ⟨_, q⟩ | ⟨q, _⟩
    · rw [cr_self] at q
      omega
    · omega
theorem east_pos {l : List Pt} (h : Cyc Ps l) (hl : l ≠ []) : 1 ≤ cnt (1, 0) l := by
  by_cases hc : cnt (1, 0) l = 0
  case neg => omega
  exfalso
  by_cases e : ∃ p ∈ l, p.2 ≤ 0
  · obtain ⟨p, hp, p0⟩ := e
    obtain ⟨r, s, rfl⟩ := List.append_of_mem hp
    have h2 := cyc_rot h
    rw [cnt_rot] at hc
    exact down_cyc (a := p) (l := s ++ r) h2 hc p0
  · cases l with
    | nil => exact hl rfl
    | cons a t =>
      have all : ∀ p ∈ a :: t, 0 < p.2 := fun p hp => by
        rcases Int.lt_or_le 0 p.2 with y | y
        · exact y
        · exact absurd ⟨p, hp, y⟩ e
      have := up_all (l := t) h (fun x hx => all x (by simp [hx])) (all a (by simp)) (all a (by simp))
      rw [cr_self] at this
      omega
/-- without a bad wedge it goes round -/
theorem fltP_turns {l : List Pt} (hl : l ≠ []) : fltP l = match wedF 0 (steps l) with
  | some i => some ("wedge", i)
  | none => if 1 < eastN l then some ("turns", 0) else none := by
  unfold fltP
  cases e : wedF 0 (steps l) with
  | some i => rfl
  | none =>
    have hp : Cyc Ps l := cyc_steps.mpr (wedF_none e)
    have := east_pos hp hl
    rw [← east_cnt hp] at this
    show (if eastN l = 1 then none else some ("turns", 0)) = if 1 < eastN l then some ("turns", 0) else none
    by_cases z : eastN l = 1
    · rw [if_pos z, if_neg (by omega)]
    · rw [if_neg z, if_pos (by omega)]
theorem fltP_once {l : List Pt} (h : Cyc Ps l) (ho : cnt (1, 0) l = 1) : fltP l = none := by
  unfold fltP
  rw [wedF_pos (cyc_steps.mp h)]
  show (if eastN l = 1 then none else some ("turns", 0)) = none
  rw [if_pos ((east_cnt h).trans ho)]
theorem fltP_more {l : List Pt} (h : Cyc Ps l) (ho : cnt (1, 0) l ≠ 1) : fltP l = some ("turns", 0) := by
  unfold fltP
  rw [wedF_pos (cyc_steps.mp h)]
  show (if eastN l = 1 then none else some ("turns", 0)) = _
  rw [if_neg (by rw [east_cnt h]; exact ho)]
/-! ### counted place by place -/
def bI (b : Bool) : Int := if b then 1 else 0
def eaS (l : List Pt) (i : Nat) : Int := ((List.range i).map fun k => bI (est (gp l (pvI l.length k)) (gp l k))).sum
theorem eaS_succ (l : List Pt) (i : Nat) : eaS l (i + 1) = eaS l i + bI (est (gp l (pvI l.length i)) (gp l i)) := by
  unfold eaS
  rw [List.range_succ, List.map_append, List.sum_append]
  simp
theorem filt_sum {α : Type} (f : α → Bool) : ∀ l : List α, ((l.filter f).length : Int) = (l.map fun x => bI (f x)).sum
  | [] => rfl
  | x :: l => by
    rw [List.filter_cons, List.map_cons, List.sum_cons, ← filt_sum f l]
    by_cases c : f x = true
    · rw [if_pos c, List.length_cons]
      unfold bI
      rw [if_pos c]
      omega
    · rw [if_neg c]
      unfold bI
      rw [if_neg c]
      omega
theorem steps_range {l : List Pt} : steps l = (List.range l.length).map fun j => (gp l j, gp l (nxI l.length j)) := by
  have len : (steps l).length = l.length := by
    unfold steps
    rw [List.length_zip, List.length_append, List.length_drop, List.length_take]
    omega
  refine List.ext_getElem (by rw [len, List.length_map, List.length_range]) fun j h1 h2 => ?_
  have hj : j < l.length := by rw [len] at h1; exact h1
  rw [List.getElem_map, List.getElem_range]
  refine (List.getElem_zip (l := l) (l' := l.drop 1 ++ l.take 1) (i := j) (h := h1)).trans ?_
  refine Prod.ext (gp_eq hj).symm ?_
  show (l.drop 1 ++ l.take 1)[j]'_ = gp l (nxI l.length j)
  rw [gp_eq (nxI_lt hj)]
  unfold nxI
  by_cases z : j + 1 = l.length
  · rw [List.getElem_append_right (by rw [List.length_drop]; omega), List.getElem_take]
    congr 1
    rw [List.length_drop, if_pos z]
    omega
  · rw [List.getElem_append_left (by rw [List.length_drop]; omega), List.getElem_drop]
    congr 1
    rw [if_neg z]
    omega
theorem eaS_all {l : List Pt} (hl : l ≠ []) : eaS l l.length = eastN l := by
  have h0 : 0 < l.length := List.length_pos_iff.mpr hl
  unfold eastN
  rw [filt_sum, steps_range, List.map_map]
  unfold eaS
  rw [← sum_rot h0 (fun k => bI (est (gp l (pvI l.length k)) (gp l k)))]
  congr 1
  refine List.map_congr_left fun j hj => ?_
  have hj := List.mem_range.mp hj
  show bI (est (gp l (pvI l.length ((j + 1) % l.length))) (gp l ((j + 1) % l.length))) = bI (est (gp l j) (gp l (nxI l.length j)))
  rw [nxI_mod hj]
  have e : pvI l.length (nxI l.length j) = j := by
    unfold nxI pvI
    by_cases z : j + 1 = l.length
    · rw [if_pos z, if_pos rfl]
      omega
    · rw [if_neg z, if_neg (by omega)]
      omega
  rw [e]
end RR

namespace RR
open PySem PySem.Spec L2
/-! ### a smooth round of five rays or more has a number -1 -/
def wt (w : List Int) : Int := w.sum + 3 * w.length
theorem wt_six {p q : Pt} {w : List Int} (c : cr p q = 1) (h : Clo p q w) : 6 * (hs p q w : Int) = wt w := six w.length p q w (Nat.le_refl _) c h
theorem clo_m1 {p q : Pt} {a b : Int} {s : List Int} (h : Clo p q (a :: -1 :: b :: s)) : Clo p q ((a + 1) :: (b + 1) :: s) := by
  obtain ⟨e1, e2⟩ := nx_m1 p q a b
  have : en p q ((a + 1) :: (b + 1) :: s) = en p q (a :: -1 :: b :: s) := by
    show en (nx p q (a + 1)) (nx q (nx p q (a + 1)) (b + 1)) s = en (nx q (nx p q a) (-1)) (nx (nx p q a) (nx q (nx p q a) (-1)) b) s
    rw [e2, e1]
  unfold Clo
  rw [this]
  exact h
theorem clo_z {p q : Pt} {a b : Int} {s : List Int} (h : Clo p q (a :: 0 :: b :: s)) : Clo p q ((a + b) :: s) := by
  obtain ⟨e1, e2⟩ := nx_z p q a b
  have : en p q ((a + b) :: s) = (ng (en p q (a :: 0 :: b :: s)).1, ng (en p q (a :: 0 :: b :: s)).2) := by
    show en q (nx p q (a + b)) s = _
    have h3 : en p q (a :: 0 :: b :: s) = en (nx q (nx p q a) 0) (nx (nx p q a) (nx q (nx p q a) 0) b) s := rfl
    rw [h3, ← en_ng, e2]
    congr 1
    rw [e1, ng_ng]
  exact clo_ng h this
theorem clo_p1 {p q : Pt} {a b : Int} {s : List Int} (h : Clo p q (a :: 1 :: b :: s)) : Clo p q ((a - 1) :: (b - 1) :: s) := by
  obtain ⟨e1, e2⟩ := nx_p1 p q a b
  have : en p q ((a - 1) :: (b - 1) :: s) = (ng (en p q (a :: 1 :: b :: s)).1, ng (en p q (a :: 1 :: b :: s)).2) := by
    show en (nx p q (a - 1)) (nx q (nx p q (a - 1)) (b - 1)) s = _
    have h3 : en p q (a :: 1 :: b :: s) = en (nx q (nx p q a) 1) (nx (nx p q a) (nx q (nx p q a) 1) b) s := rfl
    rw [h3, ← en_ng, e2, e1]
  exact clo_ng h this
theorem wt_m1 {a b : Int} {s : List Int} : wt (a :: -1 :: b :: s) = wt ((a + 1) :: (b + 1) :: s) := by
  unfold wt
  simp only [List.sum_cons, List.length_cons]
  omega
theorem wt_z {a b : Int} {s : List Int} : wt (a :: 0 :: b :: s) = wt ((a + b) :: s) + 6 := by
  unfold wt
  simp only [List.sum_cons, List.length_cons]
  omega
theorem wt_p1 {a b : Int} {s : List Int} : wt (a :: 1 :: b :: s) = wt ((a - 1) :: (b - 1) :: s) + 6 := by
  unfold wt
  simp only [List.sum_cons, List.length_cons]
  omega
/-- spin, with what it holds -/
theorem spinM {p q : Pt} {w : List Int} {e : Int} (c : cr p q = 1) (h : Clo p q w) (he : e ∈ w) (h2 : 2 ≤ w.length) : ∃ (x : Int) (t : List Int) (p' q' : Pt), cr p' q' = 1 ∧ Clo p' q' (x :: e :: t) ∧ wt (x :: e :: t) = wt w ∧ t.length + 2 = w.length ∧ ∀ y ∈ t, y ∈ w := by
  obtain ⟨r1, r2, rfl⟩ := List.append_of_mem he
  by_cases h1 : r1 = []
  · subst h1
    have n2 : r2 ≠ [] := fun z => by
      subst z
      simp at h2
    obtain ⟨r3, x, rfl⟩ : ∃ r3 x, r2 = r3 ++ [x] := ⟨r2.dropLast, r2.getLast n2, (List.dropLast_concat_getLast n2).symm⟩
    obtain ⟨p', q', c', k1, k2⟩ := clo_rot (s := e :: r3) (r := [x]) h c
    refine ⟨x, r3, p', q', c', k1, ?_, by simp, fun y hy => by simp [hy]⟩
    unfold wt
    simp only [List.sum_cons, List.nil_append, List.sum_append, List.sum_nil, List.length_cons, List.length_append, List.length_nil]
    omega
  · obtain ⟨r3, x, rfl⟩ : ∃ r3 x, r1 = r3 ++ [x] := ⟨r1.dropLast, r1.getLast h1, (List.dropLast_concat_getLast h1).symm⟩
    rw [List.append_assoc] at h
    obtain ⟨p', q', c', k1, k2⟩ := clo_rot (s := r3) (r := x :: e :: r2) h c
    refine ⟨x, r2 ++ r3, p', q', c', k1, ?_, ?_, fun y hy => ?_⟩
    · unfold wt
      simp only [List.sum_cons, List.sum_append, List.sum_nil, List.length_cons, List.length_append, List.length_nil]
      omega
    · simp
      omega
    · rcases List.mem_append.mp hy with z | z <;> simp [z]
theorem clo_one {p q : Pt} {a : Int} (c : cr p q = 1) (h : Clo p q [a]) : False := by
  have z : q = p ∨ q = ng p := by
    rcases h with h | h
    · exact .inl (congrArg Prod.fst h)
    · exact .inr (congrArg Prod.fst h)
  rcases z with rfl | rfl
  · rw [cr_self] at c; cases c
  · have : cr p (ng p) = 0 := by
      unfold cr ng
      show p.1 * -p.2 - p.2 * -p.1 = 0
      grind
    rw [this] at c; cases c
theorem clo_two {p q : Pt} {a b : Int} (c : cr p q = 1) (h : Clo p q [a, b]) : a = 0 ∧ b = 0 := by
  have e1 : (nx p q a = p ∧ nx q (nx p q a) b = q) ∨ (nx p q a = ng p ∧ nx q (nx p q a) b = ng q) := by
    rcases h with h | h
    · exact .inl ⟨congrArg Prod.fst h, congrArg Prod.snd h⟩
    · exact .inr ⟨congrArg Prod.fst h, congrArg Prod.snd h⟩
  have c2 := nx_cr p q a
  rcases e1 with ⟨e1, e2⟩ | ⟨e1, e2⟩
  · rw [e1, cr_neg, c] at c2
    omega
  · have w1 : cr p (nx p q a) = -a := by
      have : cr p (nx p q a) = -a * cr p q := by
        unfold nx cr
        grind
      rw [this, c]
      omega
    have w2 : cr p (nx p q a) = 0 := by
      rw [e1]
      unfold cr ng
      show p.1 * -p.2 - p.2 * -p.1 = 0
      grind
    have ha : a = 0 := by omega
    have w3 : cr q (nx q (nx p q a) b) = -b := by
      have : cr q (nx q (nx p q a) b) = -b * cr q (nx p q a) := by
        unfold nx cr
        grind
      rw [this, c2, c]
      omega
    have w4 : cr q (nx q (nx p q a) b) = 0 := by
      rw [e2]
      unfold cr ng
      show q.1 * -q.2 - q.2 * -q.1 = 0
      grind
    exact ⟨ha, by omega⟩
theorem wt_pos : ∀ (n : Nat) (p q : Pt) (w : List Int), w.length ≤ n → cr p q = 1 → Clo p q w → w ≠ [] → 6 ≤ wt w := by
  intro n
  induction n with
  | zero =>
    intro p q w hn c h hr
    exact absurd (List.length_eq_zero_iff.mp (by omega)) hr
  | succ n ih =>
    intro p q w hn c h hr
    obtain ⟨e, he, hs3⟩ := clo_small c h hr
    match w, hn, h, hr, he with
    | [a], hn, h, _, _ => exact (clo_one c h).elim
    | [a, b], hn, h, _, _ =>
      obtain ⟨rfl, rfl⟩ := clo_two c h
      decide
    | a :: b :: d :: r, hn, h, _, he =>
      obtain ⟨x, t, p', q', c', h', hw, hl, _⟩ := spinM c h he (by simp)
      rw [← hw]
      match t, hl, h' with
      | y :: t, hl, h' =>
        simp only [List.length_cons] at hl hn
        rcases hs3 with rfl | rfl | rfl
        · rw [wt_m1]
          exact ih p' q' _ (by simp only [List.length_cons]; omega) c' (clo_m1 h') (by simp)
        · rw [wt_z]
          have := ih p' q' _ (by simp only [List.length_cons]; omega) c' (clo_z h') (by simp)
          omega
        · rw [wt_p1]
          have := ih p' q' _ (by simp only [List.length_cons]; omega) c' (clo_p1 h') (by simp)
          omega
      | [], hl, h' => simp at hl
/-- half a turn: a number -1 behind any two neighbours -/
theorem ear_half : ∀ (n : Nat) (p q : Pt) (x y : Int) (s : List Int), s.length ≤ n → cr p q = 1 → Clo p q (x :: y :: s) → wt (x :: y :: s) = 6 → s ≠ [] → -1 ∈ s := by
  intro n
  induction n with
  | zero =>
    intro p q x y s hn c h hw hs
    exact absurd (List.length_eq_zero_iff.mp (by omega)) hs
  | succ n ih =>
    intro p q x y s hn c h hw hs
    obtain ⟨e, he, he3⟩ := clo_small c h (by simp)
    -- only -1
    have em : e = -1 := by
      obtain ⟨x', t, p', q', c', h', hw', hl, _⟩ := spinM c h he (by simp)
      match t, hl, h', hw' with
      | y' :: t, hl, h', hw' =>
        rcases he3 with rfl | rfl | rfl
        · rfl
        · rw [wt_z] at hw'
          have := wt_pos _ p' q' _ (Nat.le_refl _) c' (clo_z h') (by simp)
          omega
        · rw [wt_p1] at hw'
          have := wt_pos _ p' q' _ (Nat.le_refl _) c' (clo_p1 h') (by simp)
          omega
      | [], hl, h', _ =>
        have : s.length = 0 := by simp only [List.length_cons, List.length_nil] at hl; omega
        exact absurd (List.length_eq_zero_iff.mp this) hs
    subst em
    rcases List.mem_cons.mp he with e1 | he
    · -- the first
      subst e1
      obtain ⟨s', z, rfl⟩ : ∃ s' z, s = s' ++ [z] := ⟨s.dropLast, s.getLast hs, (List.dropLast_concat_getLast hs).symm⟩
      obtain ⟨p', q', c', k1, _⟩ := clo_rot (s := -1 :: y :: s') (r := [z]) h c
      have k2 := clo_m1 (s := s') k1
      have hw2 : wt ((z + 1) :: (y + 1) :: s') = 6 := by
        rw [← wt_m1, ← hw]
        unfold wt
        simp only [List.sum_cons, List.sum_append, List.sum_nil, List.length_cons, List.length_append, List.length_nil]
        omega
      by_cases hs' : s' = []
      · subst hs'
        obtain ⟨h1, _⟩ := clo_two c' k2
        have : z = -1 := by omega
        simp [this]
      · have := ih p' q' _ _ s' (by simp at hn; omega) c' k2 hw2 hs'
        simp [this]
    · rcases List.mem_cons.mp he with e1 | he
      · subst e1
        match s, hs, h, hw, hn with
        | b :: s', _, h, hw, hn =>
          have k2 := clo_m1 h
          rw [wt_m1] at hw
          by_cases hs' : s' = []
          · subst hs'
            obtain ⟨_, h1⟩ := clo_two c k2
            have : b = -1 := by omega
            simp [this]
          · have := ih p q _ _ s' (by simp at hn; omega) c k2 hw hs'
            simp [this]
      · exact he
theorem ear_full {p q : Pt} {w : List Int} (c : cr p q = 1) (h : Clo p q w) (hw : wt w = 12) (h5 : 5 ≤ w.length) : -1 ∈ w := by
  have hne : w ≠ [] := fun z => by subst z; simp at h5
  obtain ⟨e, he, he3⟩ := clo_small c h hne
  obtain ⟨x, t, p', q', c', h', hw', hl, hm⟩ := spinM c h he (by omega)
  match t, hl, h', hw', hm with
  | [], hl, _, _, _ => simp at hl; omega
  | [a], hl, _, _, _ => simp at hl; omega
  | [a, b], hl, _, _, _ => simp at hl; omega
  | a :: b :: d :: t, hl, h', hw', hm =>
    rcases he3 with rfl | rfl | rfl
    · exact he
    · rw [wt_z] at hw'
      have := ear_half _ p' q' _ _ _ (Nat.le_refl _) c' (clo_z h') (by omega) (by simp)
      exact hm _ (List.mem_cons_of_mem _ (List.mem_cons_of_mem _ this))
    · rw [wt_p1] at hw'
      have := ear_half _ p' q' _ _ _ (Nat.le_refl _) c' (clo_p1 h') (by omega) (by simp)
      exact hm _ (List.mem_cons_of_mem _ this)
theorem tag_ear {l : List Pt} (hS : Smooth l) (h5 : 5 ≤ l.length) (ho : cnt (1, 0) l = 1) : ∃ j < l.length, tagAt l j = -1 := by
  have u : ∀ j : Nat, Uni (gp l (j % l.length)) (gp l ((j + 1) % l.length)) := fun j => by
    have hm : j % l.length < l.length := Nat.mod_lt _ (by omega)
    have := smooth_next hS (by omega) hm
    rw [← nxI_mod hm, Nat.mod_add_mod] at this
    exact this
  have st : ∀ j < l.length, nx (gp l (j % l.length)) (gp l ((j + 1) % l.length)) (tagAt l ((j + 1) % l.length)) = gp l ((j + 2) % l.length) := fun j hj => by
    have hm : (j + 1) % l.length < l.length := Nat.mod_lt _ (by omega)
    have e1 : pvI l.length ((j + 1) % l.length) = j % l.length := by
      rw [← pvI_mod hm]
      by_cases e : j + 1 = l.length
      · rw [e, Nat.mod_self, Nat.mod_eq_of_lt (by omega), Nat.mod_eq_of_lt (by omega)]
        omega
      · rw [Nat.mod_eq_of_lt (show j + 1 < l.length by omega), show j + 1 + l.length - 1 = j + l.length by omega, Nat.add_mod_right]
    have e2 : nxI l.length ((j + 1) % l.length) = (j + 2) % l.length := by
      rw [← nxI_mod hm, Nat.mod_add_mod]
    have := nx_tag (u j) (u (j + 1))
    unfold tagAt
    rw [e1, e2]
    exact this
  obtain ⟨e1, _⟩ := en_along (f := fun j => gp l (j % l.length)) (t := fun j => tagAt l ((j + 1) % l.length)) l.length st
  have c : cr (gp l (0 % l.length)) (gp l (1 % l.length)) = 1 := u 0
  have e3 : en (gp l (0 % l.length)) (gp l (1 % l.length)) ((List.range l.length).map fun j => tagAt l ((j + 1) % l.length)) = (gp l (0 % l.length), gp l (1 % l.length)) := by
    rw [e1]
    show (gp l (l.length % l.length), gp l ((l.length + 1) % l.length)) = _
    rw [Nat.mod_self, Nat.zero_mod, Nat.add_mod_left]
  have t := tags_twelve hS (by omega) ho
  have hw : wt ((List.range l.length).map fun j => tagAt l ((j + 1) % l.length)) = 12 := by
    unfold wt
    rw [sum_rot (by omega) (tagAt l), List.length_map, List.length_range]
    exact t
  have m := ear_full c (.inl e3) hw (by rw [List.length_map, List.length_range]; omega)
  obtain ⟨j, hj, e⟩ := List.mem_map.mp m
  exact ⟨(j + 1) % l.length, Nat.mod_lt _ (by omega), e⟩
end RR

namespace RR
open PySem PySem.Spec L2
/-! ### a ray put in: the numbers -/
def putL (l : List Pt) (i : Nat) : List Pt := l.take (i + 1) ++ [sm (gp l i) (gp l (nxI l.length i))] ++ l.drop (i + 1)
theorem putL_length {l : List Pt} {i : Nat} (h : i < l.length) : (putL l i).length = l.length + 1 := put_length h
theorem ins_get {α : Type} {l : List α} {i j : Nat} {x : α} (h : i < l.length) : (l.take (i + 1) ++ [x] ++ l.drop (i + 1))[j]? = if j ≤ i then l[j]? else if j = i + 1 then some x else l[j - 1]? := by
  have lt : (l.take (i + 1)).length = i + 1 := by rw [List.length_take]; omega
  by_cases h1 : j ≤ i
  · rw [if_pos h1, List.append_assoc, List.getElem?_append_left (by omega), List.getElem?_take_of_lt (by omega)]
  · rw [if_neg h1]
    by_cases h2 : j = i + 1
    · subst h2
      rw [if_pos rfl, List.append_assoc, List.getElem?_append_right (by omega), lt, Nat.sub_self]
      rfl
    · rw [if_neg h2, List.getElem?_append_right (by rw [List.length_append, lt]; simp; omega), List.length_append, lt, List.getElem?_drop]
      congr 1
      simp
      omega
theorem gp_put {l : List Pt} {i : Nat} (h : i < l.length) (j : Nat) : gp (putL l i) j = if j ≤ i then gp l j else if j = i + 1 then sm (gp l i) (gp l (nxI l.length i)) else gp l (j - 1) := by
  unfold gp putL
  rw [ins_get h]
  split
  · rfl
  · split
    · rfl
    · rfl
theorem cr_sm_right (p q r : Pt) : cr p (sm q r) = cr p q + cr p r := by
  unfold cr sm
  show p.1 * (q.2 + r.2) - p.2 * (q.1 + r.1) = p.1 * q.2 - p.2 * q.1 + (p.1 * r.2 - p.2 * r.1)
  grind
theorem cr_sm_left (p q r : Pt) : cr (sm p q) r = cr p r + cr q r := by
  unfold cr sm
  show (p.1 + q.1) * r.2 - (p.2 + q.2) * r.1 = p.1 * r.2 - p.2 * r.1 + (q.1 * r.2 - q.2 * r.1)
  grind
/-- where a place goes that is not the new one -/
def ofPut (i j : Nat) : Nat := if j ≤ i then j else j - 1
theorem tag_put {l : List Pt} (hS : Smooth l) (h3 : 3 ≤ l.length) {i j : Nat} (hi : i < l.length) (hj : j < l.length + 1) :
    tagAt (putL l i) j = if j = i + 1 then -1 else tagAt l (ofPut i j) - (if ofPut i j = i then 1 else 0) - (if ofPut i j = nxI l.length i then 1 else 0) := by
  have hn : (putL l i).length = l.length + 1 := putL_length hi
  have u := smooth_next hS (by omega) hi
  unfold tagAt
  rw [hn, gp_put hi, gp_put hi]
  by_cases h1 : j = i + 1
  · subst h1
    rw [if_pos rfl]
    have e1 : pvI (l.length + 1) (i + 1) = i := by unfold pvI; rw [if_neg (by omega)]; omega
    rw [e1, if_pos (Nat.le_refl _)]
    have e2 : (if nxI (l.length + 1) (i + 1) ≤ i then gp l (nxI (l.length + 1) (i + 1)) else if nxI (l.length + 1) (i + 1) = i + 1 then sm (gp l i) (gp l (nxI l.length i)) else gp l (nxI (l.length + 1) (i + 1) - 1)) = gp l (nxI l.length i) := by
      unfold nxI
      by_cases hc : i + 1 = l.length
      · rw [if_pos hc, if_pos (show i + 1 + 1 = l.length + 1 by omega), if_pos (Nat.zero_le _)]
      · rw [if_neg hc, if_neg (show ¬ i + 1 + 1 = l.length + 1 by omega), if_neg (by omega), if_neg (by omega)]
        rfl
    rw [e2]
    unfold Uni at u
    omega
  · rw [if_neg h1]
    by_cases h2 : j = i
    · subst h2
      have o : ofPut j j = j := by unfold ofPut; rw [if_pos (Nat.le_refl _)]
      rw [o, if_pos rfl]
      have ne : j ≠ nxI l.length j := by unfold nxI; split <;> omega
      rw [if_neg ne]
      have e1 : nxI (l.length + 1) j = j + 1 := by unfold nxI; rw [if_neg (by omega)]
      rw [e1, if_neg (c := j + 1 ≤ j) (by omega), if_pos (c := j + 1 = j + 1) rfl]
      have e2 : (if pvI (l.length + 1) j ≤ j then gp l (pvI (l.length + 1) j) else if pvI (l.length + 1) j = j + 1 then sm (gp l j) (gp l (nxI l.length j)) else gp l (pvI (l.length + 1) j - 1)) = gp l (pvI l.length j) := by
        unfold pvI
        by_cases hc : j = 0
        · subst hc
          rw [if_pos rfl, if_pos rfl, if_neg (by omega), if_neg (by omega)]
          rfl
        · rw [if_neg hc, if_neg hc, if_pos (by omega)]
      rw [e2, cr_sm_right]
      have u1 := smooth_prev hS (by omega) hi
      unfold Uni at u1
      omega
    · have o : ofPut i j < l.length := by unfold ofPut; split <;> omega
      have oi : ofPut i j ≠ i := by unfold ofPut; split <;> omega
      rw [if_neg oi]
      by_cases h4 : ofPut i j = nxI l.length i
      · rw [if_pos h4]
        have e1 : pvI (l.length + 1) j = i + 1 := by
          unfold pvI
          unfold ofPut nxI at h4
          by_cases hc : i + 1 = l.length
          · rw [if_pos hc] at h4
            split at h4
            · rw [if_pos h4]; omega
            · omega
          · rw [if_neg hc] at h4
            split at h4
            · omega
            · rw [if_neg (by omega)]; omega
        rw [e1, if_neg (c := i + 1 ≤ i) (by omega), if_pos (c := i + 1 = i + 1) rfl]
        have e2 : (if nxI (l.length + 1) j ≤ i then gp l (nxI (l.length + 1) j) else if nxI (l.length + 1) j = i + 1 then sm (gp l i) (gp l (nxI l.length i)) else gp l (nxI (l.length + 1) j - 1)) = gp l (nxI l.length (ofPut i j)) := by
          rw [h4]
          unfold ofPut nxI at h4
          unfold nxI
          by_cases hc : i + 1 = l.length
          · rw [if_pos hc] at h4
            split at h4
            · subst h4
              rw [if_pos hc, if_neg (c := 0 + 1 = l.length + 1) (by omega), if_pos (by omega), if_neg (c := 0 + 1 = l.length) (by omega)]
            · omega
          · rw [if_neg hc] at h4
            split at h4
            · omega
            · rw [if_neg hc]
              by_cases hd : j + 1 = l.length + 1
              · rw [if_pos hd, if_pos (Nat.zero_le _), if_pos (by omega)]
              · rw [if_neg hd, if_neg (by omega), if_neg (by omega), if_neg (by omega)]
                congr 1
                omega
        have e3 : pvI l.length (ofPut i j) = i := by
          rw [h4]
          unfold pvI nxI
          split <;> split <;> omega
        have u2 := smooth_next hS (by omega) (nxI_lt hi)
        rw [e2, e3, h4, cr_sm_left]
        unfold Uni at u2
        omega
      · rw [if_neg h4]
        have e1 : (if pvI (l.length + 1) j ≤ i then gp l (pvI (l.length + 1) j) else if pvI (l.length + 1) j = i + 1 then sm (gp l i) (gp l (nxI l.length i)) else gp l (pvI (l.length + 1) j - 1)) = gp l (pvI l.length (ofPut i j)) := by
          unfold ofPut nxI at h4
          unfold ofPut pvI
          by_cases hc : j ≤ i
          · rw [if_pos hc] at h4 ⊢
            by_cases hd : j = 0
            · rw [if_pos hd, if_pos hd]
              have : ¬ i + 1 = l.length := fun z => by rw [if_pos z] at h4; omega
              rw [if_neg (by omega), if_neg (by omega)]
              rfl
            · rw [if_neg hd, if_neg hd, if_pos (by omega)]
          · rw [if_neg hc] at h4 ⊢
            have : ¬ i + 1 = l.length := fun z => by omega
            rw [if_neg this] at h4
            rw [if_neg (show ¬ j = 0 by omega), if_neg (show ¬ j - 1 = 0 by omega), if_neg (by omega), if_neg (by omega)]
        have e2 : (if nxI (l.length + 1) j ≤ i then gp l (nxI (l.length + 1) j) else if nxI (l.length + 1) j = i + 1 then sm (gp l i) (gp l (nxI l.length i)) else gp l (nxI (l.length + 1) j - 1)) = gp l (nxI l.length (ofPut i j)) := by
          unfold ofPut nxI
          by_cases hc : j ≤ i
          · rw [if_pos hc, if_neg (show ¬ j + 1 = l.length + 1 by omega), if_neg (show ¬ j + 1 = l.length by omega), if_pos (by omega)]
          · rw [if_neg hc]
            by_cases hd : j + 1 = l.length + 1
            · rw [if_pos hd, if_pos (Nat.zero_le _), if_pos (by omega)]
            · rw [if_neg hd, if_neg (by omega), if_neg (by omega), if_neg (by omega)]
              congr 1
              omega
        rw [e1, e2]
        omega
/-- the numbers, changed at a ray and the next one, -1 between -/
def putTags (t : List Int) (i k : Nat) : List Int := ((t.set i (t[i]?.getD 0 - 1)).set k ((t.set i (t[i]?.getD 0 - 1))[k]?.getD 0 - 1))
theorem tags_put {l : List Pt} (hS : Smooth l) (h3 : 3 ≤ l.length) {i : Nat} (hi : i < l.length) :
    tags (putL l i) = (putTags (tags l) i (nxI l.length i)).take (i + 1) ++ [-1] ++ (putTags (tags l) i (nxI l.length i)).drop (i + 1) := by
  have ne : i ≠ nxI l.length i := by unfold nxI; split <;> omega
  have lD : (putTags (tags l) i (nxI l.length i)).length = l.length := by
    unfold putTags
    rw [List.length_set, List.length_set, tags_length]
  have gD : ∀ m, m < l.length → (putTags (tags l) i (nxI l.length i))[m]? = some (tagAt l m - (if m = i then 1 else 0) - (if m = nxI l.length i then 1 else 0)) := fun m hm => by
    have e0 : ∀ m, m < l.length → ((tags l).set i ((tags l)[i]?.getD 0 - 1))[m]? = some (tagAt l m - (if m = i then 1 else 0)) := fun m hm => by
      by_cases h : m = i
      · subst h
        rw [List.getElem?_set_self (by rw [tags_length]; exact hm), tags_get hm, if_pos rfl]
        rfl
      · rw [List.getElem?_set_ne (by omega), tags_get hm, if_neg h, Int.sub_zero]
    unfold putTags
    by_cases h : m = nxI l.length i
    · subst h
      rw [List.getElem?_set_self (by rw [List.length_set, tags_length]; exact hm), e0 _ hm, if_pos (c := nxI l.length i = nxI l.length i) rfl]
      rfl
    · rw [List.getElem?_set_ne (by omega), e0 _ hm, if_neg (c := m = nxI l.length i) h, Int.sub_zero]
  apply List.ext_getElem?
  intro j
  rw [ins_get (by rw [lD]; exact hi)]
  by_cases hj : j < l.length + 1
  · rw [tags_get (by rw [putL_length hi]; exact hj), tag_put hS h3 hi hj]
    by_cases h1 : j ≤ i
    · have o : ofPut i j = j := by unfold ofPut; rw [if_pos h1]
      rw [if_pos h1, gD j (by omega), if_neg (by omega), o]
    · rw [if_neg h1]
      by_cases h2 : j = i + 1
      · rw [if_pos h2, if_pos h2]
      · have o : ofPut i j = j - 1 := by unfold ofPut; rw [if_neg h1]
        rw [if_neg h2, if_neg h2, gD (j - 1) (by omega), o]
  · rw [List.getElem?_eq_none (by rw [tags_length, putL_length hi]; omega), if_neg (by omega), if_neg (by omega), List.getElem?_eq_none (by rw [lD]; omega)]
theorem smooth_putL {l : List Pt} (hS : Smooth l) (h2 : 2 ≤ l.length) {i : Nat} (hi : i < l.length) : Smooth (putL l i) := by
  have hm : (i + 1) % l.length < l.length := Nat.mod_lt _ (by omega)
  have u := cyc_at hS hi h2 hm
  have e : putL l i = l.take (i + 1) ++ [sm l[i] l[(i + 1) % l.length]] ++ l.drop (i + 1) := by
    unfold putL
    rw [gp_eq hi, ← nxI_mod hi, gp_eq hm]
  obtain ⟨m, e0⟩ := rot_next hi h2 hm
  have r1 : Smooth (l[(i + 1) % l.length] :: m ++ [l[i]]) := by rw [← e0]; exact cyc_rot (by rw [List.take_append_drop]; exact hS)
  have r2 := smooth_put_end r1
  have r3 : Smooth ([sm l[i] l[(i + 1) % l.length]] ++ (l.drop (i + 1) ++ l.take (i + 1))) := by
    rw [e0]
    refine cyc_rot (l := l[(i + 1) % l.length] :: m ++ [l[i]]) (m := [sm l[i] l[(i + 1) % l.length]]) ?_
    rw [List.append_assoc]
    exact r2
  rw [← List.append_assoc] at r3
  rw [e, List.append_assoc]
  exact cyc_rot r3
end RR

namespace RR
open PySem PySem.Spec L2
/-! ### a ray left out -/
def outL (l : List Pt) (j : Nat) : List Pt := l.take j ++ l.drop (j + 1)
theorem outL_length {l : List Pt} {j : Nat} (hj : j < l.length) : (outL l j).length = l.length - 1 := by
  unfold outL
  rw [List.length_append, List.length_take, List.length_drop]
  omega
theorem gp_out {l : List Pt} {j : Nat} (hj : j < l.length) (i : Nat) : gp (outL l j) i = if i < j then gp l i else gp l (i + 1) := by
  unfold gp outL
  by_cases h : i < j
  · rw [if_pos h, List.getElem?_append_left (by rw [List.length_take]; omega), List.getElem?_take_of_lt h]
  · rw [if_neg h, List.getElem?_append_right (by rw [List.length_take]; omega), List.length_take, List.getElem?_drop, show j + 1 + (i - min j l.length) = i + 1 by omega]
theorem near_out {l : List Pt} {j : Nat} (h : Near l) : Near (outL l j) := fun p hp => by
  rcases List.mem_append.mp hp with z | z
  · exact h p (List.mem_of_mem_take z)
  · exact h p (List.mem_of_mem_drop z)
theorem smooth_out_cr {l : List Pt} {j : Nat} (hj : j < l.length) (h3 : 3 ≤ l.length) (h : Smooth (outL l j)) : cr (gp l (pvI l.length j)) (gp l (nxI l.length j)) = 1 := by
  have hl := outL_length hj
  by_cases hc : j + 1 = l.length
  · have u := smooth_prev h (by omega) (j := 0) (by omega)
    have e1 : pvI (outL l j).length 0 = l.length - 2 := by unfold pvI; rw [if_pos rfl, hl]; omega
    rw [e1, gp_out hj, gp_out hj, if_pos (by omega), if_pos (by omega)] at u
    have e2 : pvI l.length j = l.length - 2 := by unfold pvI; rw [if_neg (by omega)]; omega
    have e3 : nxI l.length j = 0 := by unfold nxI; rw [if_pos hc]
    rw [e2, e3]
    exact u
  · have u := smooth_prev h (by omega) (j := j) (by omega)
    have e3 : nxI l.length j = j + 1 := by unfold nxI; rw [if_neg hc]
    rw [gp_out hj j, if_neg (by omega)] at u
    rw [e3]
    by_cases h0 : j = 0
    · have e1 : pvI (outL l j).length j = l.length - 2 := by unfold pvI; rw [if_pos h0, hl]; omega
      have e2 : pvI l.length j = l.length - 1 := by unfold pvI; rw [if_pos h0]
      rw [e1, gp_out hj, if_neg (by omega), show l.length - 2 + 1 = l.length - 1 by omega] at u
      rw [e2]
      exact u
    · have e1 : pvI (outL l j).length j = j - 1 := by unfold pvI; rw [if_neg h0]
      have e2 : pvI l.length j = j - 1 := by unfold pvI; rw [if_neg h0]
      rw [e1, gp_out hj, if_pos (by omega)] at u
      rw [e2]
      exact u
/-- the law's round that is never smooth -/
def roughL (t : Int) : List Pt := [(1, 0), (0, 1), (-1 - t, -2 - t)]
theorem rough_not {t : Int} (h : 0 ≤ t) : ¬ Smooth (roughL t) := by
  rintro ⟨_, _, h3⟩
  have h3 : (-1 - t) * 0 - (-2 - t) * 1 = 1 := h3
  omega
theorem rough_near {t : Int} (h0 : 0 ≤ t) (h : t ≤ 5) : Near (roughL t) := by
  intro p hp
  unfold near
  rw [Bool.and_eq_true, decide_eq_true_eq, decide_eq_true_eq]
  rcases List.mem_cons.mp hp with rfl | hp
  · decide
  rcases List.mem_cons.mp hp with rfl | hp
  · decide
  rw [List.mem_singleton.mp hp]
  constructor
  · show ((-1 - t).natAbs : Int) ≤ 200
    omega
  · show ((-2 - t).natAbs : Int) ≤ 200
    omega
/-! ### the numbers of the rest -/
def kapO (j i : Nat) : Nat := if i < j then i else i + 1
theorem gp_outK {l : List Pt} {j : Nat} (hj : j < l.length) (i : Nat) : gp (outL l j) i = gp l (kapO j i) := by
  rw [gp_out hj]
  unfold kapO
  split <;> rfl
theorem kapO_pv {n j i : Nat} (h3 : 3 ≤ n) (hj : j < n) (hi : i < n - 1) : kapO j (pvI (n - 1) i) = if pvI n (kapO j i) = j then pvI n j else pvI n (kapO j i) := by
  unfold kapO pvI
  by_cases a : i < j
  · by_cases b : i = 0
    · subst b
      simp only [a, if_true]
      split <;> split <;> (try split) <;> omega
    · simp only [a, b, if_true, if_false]
      split <;> split <;> (try split) <;> omega
  · by_cases b : i = 0
    · subst b
      have j0 : j = 0 := by omega
      subst j0
      simp
      omega
    · simp only [a, b, if_false]
      have c : i + 1 ≠ 0 := by omega
      have d : i + 1 - 1 = i := by omega
      simp only [c, d, if_false]
      by_cases e : i = j
      · have f : i - 1 < j := by omega
        have g : j ≠ 0 := by omega
        simp only [e, g, if_true, if_false]
        rw [if_pos (by omega)]
      · rw [if_neg e, if_neg (by omega)]
        omega
theorem kapO_nx {n j i : Nat} (h3 : 3 ≤ n) (hj : j < n) (hi : i < n - 1) : kapO j (nxI (n - 1) i) = if nxI n (kapO j i) = j then nxI n j else nxI n (kapO j i) := by
  unfold kapO nxI
  by_cases a : i < j
  · simp only [a, if_true]
    by_cases c : i + 1 = n - 1
    · simp only [c, if_true]
      split <;> split <;> (try split) <;> (try split) <;> omega
    · simp only [c, if_false]
      split <;> split <;> (try split) <;> (try split) <;> omega
  · simp only [a, if_false]
    by_cases c : i + 1 = n - 1
    · simp only [c, if_true]
      split <;> split <;> (try split) <;> (try split) <;> omega
    · simp only [c, if_false]
      split <;> split <;> (try split) <;> (try split) <;> omega
theorem kapO_lt {n j i : Nat} (hj : j < n) (hi : i < n - 1) : kapO j i < n ∧ kapO j i ≠ j := by
  unfold kapO
  split <;> omega
theorem nxpv_iff {n j k : Nat} (hj : j < n) (hk : k < n) : (pvI n k = j ↔ k = nxI n j) ∧ (nxI n k = j ↔ k = pvI n j) := by
  unfold pvI nxI
  constructor <;> split <;> split <;> omega
theorem tag_out {l : List Pt} (hS : Smooth l) (h4 : 4 ≤ l.length) {j i : Nat} (hj : j < l.length) (hs : sm (gp l (pvI l.length j)) (gp l (nxI l.length j)) = gp l j) (hi : i < l.length - 1) :
    tagAt (outL l j) i = tagAt l (kapO j i) + (if kapO j i = pvI l.length j then 1 else 0) + (if kapO j i = nxI l.length j then 1 else 0) := by
  obtain ⟨kl, kj⟩ := kapO_lt hj hi
  have hl := outL_length hj
  have np := nxpv_iff hj kl
  have hp := pvI_lt hj
  have hn := nxI_lt hj
  have dis : pvI l.length j ≠ nxI l.length j := by
    unfold pvI nxI
    split <;> split <;> omega
  unfold tagAt
  rw [hl, gp_outK hj, gp_outK hj, kapO_pv (by omega) hj hi, kapO_nx (by omega) hj hi]
  by_cases a : pvI l.length (kapO j i) = j
  · have ka := np.1.mp a
    have b : nxI l.length (kapO j i) ≠ j := fun z => dis ((np.2.mp z).symm.trans ka)
    rw [if_pos a, if_neg b, if_neg (fun z => dis (z.symm.trans ka)), if_pos ka, a]
    have u := smooth_next hS (by omega) kl
    have e : cr (gp l j) (gp l (nxI l.length (kapO j i))) = cr (gp l (pvI l.length j)) (gp l (nxI l.length (kapO j i))) + 1 := by
      rw [← hs, cr_sm_left, ← ka]
      exact congrArg (cr (gp l (pvI l.length j)) (gp l (nxI l.length (kapO j i))) + ·) u
    omega
  · rw [if_neg a]
    by_cases b : nxI l.length (kapO j i) = j
    · have kb := np.2.mp b
      rw [if_pos b, if_pos kb, if_neg (fun z => dis (kb.symm.trans z)), b]
      have u := smooth_prev hS (by omega) kl
      have e : cr (gp l (pvI l.length (kapO j i))) (gp l j) = 1 + cr (gp l (pvI l.length (kapO j i))) (gp l (nxI l.length j)) := by
        rw [← hs, cr_sm_right, ← kb]
        exact congrArg (· + cr (gp l (pvI l.length (kapO j i))) (gp l (nxI l.length j))) u
      omega
    · rw [if_neg b, if_neg (fun z => b (np.2.mpr z)), if_neg (fun z => a (np.1.mpr z))]
      omega
/-- the numbers of the round with both neighbours one more -/
def upTags (t : List Int) (p q : Nat) : List Int := (t.set p (t[p]?.getD 0 + 1)).set q ((t.set p (t[p]?.getD 0 + 1))[q]?.getD 0 + 1)
theorem upTags_length (t : List Int) (p q : Nat) : (upTags t p q).length = t.length := by
  unfold upTags
  rw [List.length_set, List.length_set]
theorem upTags_get {t : List Int} {p q k : Nat} (hk : k < t.length) (hne : p ≠ q) : (upTags t p q)[k]? = some (t[k] + (if k = p then 1 else 0) + (if k = q then 1 else 0)) := by
  unfold upTags
  by_cases a : k = q
  · subst a
    rw [List.getElem?_set_self (by rw [List.length_set]; exact hk), List.getElem?_set_ne hne, List.getElem?_eq_getElem hk, if_neg (fun z => hne z.symm), if_pos rfl]
    simp
  · rw [List.getElem?_set_ne (fun z => a z.symm), if_neg a]
    by_cases b : k = p
    · subst b
      rw [List.getElem?_set_self hk, List.getElem?_eq_getElem hk, if_pos rfl]
      simp
    · rw [List.getElem?_set_ne (fun z => b z.symm), List.getElem?_eq_getElem hk, if_neg b]
      simp
theorem tags_out {l : List Pt} (hS : Smooth l) (h4 : 4 ≤ l.length) {j : Nat} (hj : j < l.length) (hs : sm (gp l (pvI l.length j)) (gp l (nxI l.length j)) = gp l j) :
    tags (outL l j) = (upTags (tags l) (pvI l.length j) (nxI l.length j)).take j ++ (upTags (tags l) (pvI l.length j) (nxI l.length j)).drop (j + 1) := by
  have hl := outL_length hj
  have dis : pvI l.length j ≠ nxI l.length j := by
    unfold pvI nxI
    split <;> split <;> omega
  have ul : (upTags (tags l) (pvI l.length j) (nxI l.length j)).length = l.length := by rw [upTags_length, tags_length]
  apply List.ext_getElem?
  intro i
  by_cases hi : i < l.length - 1
  · rw [tags_get (by omega), tag_out hS h4 hj hs hi]
    obtain ⟨kl, _⟩ := kapO_lt hj hi
    have e := upTags_get (t := tags l) (k := kapO j i) (by rw [tags_length]; exact kl) dis
    have et : (tags l)[kapO j i]'(by rw [tags_length]; exact kl) = tagAt l (kapO j i) := by
      have := tags_get kl
      rw [List.getElem?_eq_getElem (by rw [tags_length]; exact kl)] at this
      exact Option.some.inj this
    rw [et] at e
    rw [← e]
    unfold kapO
    by_cases z : i < j
    · rw [if_pos z, List.getElem?_append_left (by rw [List.length_take]; omega), List.getElem?_take_of_lt z]
    · rw [if_neg z, List.getElem?_append_right (by rw [List.length_take]; omega), List.length_take, List.getElem?_drop, show j + 1 + (i - min j (upTags (tags l) (pvI l.length j) (nxI l.length j)).length) = i + 1 by omega]
  · rw [List.getElem?_eq_none (by rw [tags_length]; omega), List.getElem?_eq_none (by rw [List.length_append, List.length_take, List.length_drop]; omega)]
theorem tag_m1 {l : List Pt} (hS : Smooth l) (h2 : 2 ≤ l.length) {j : Nat} (hj : j < l.length) : tagAt l j = -1 ↔ sm (gp l (pvI l.length j)) (gp l (nxI l.length j)) = gp l j := by
  have u1 := smooth_prev hS h2 hj
  have e := smooth_sum u1 (smooth_next hS h2 hj)
  unfold tagAt
  constructor
  · intro h
    rw [e, show cr (gp l (pvI l.length j)) (gp l (nxI l.length j)) = 1 by omega]
    unfold sc
    simp
  · intro h
    have : cr (gp l (pvI l.length j)) (gp l j) = 1 := u1
    rw [← h, cr_sm_right] at this
    have z : cr (gp l (pvI l.length j)) (gp l (pvI l.length j)) = 0 := by unfold cr; grind
    omega
theorem ixN_pv {n j : Nat} (h : j < n) : ixN n ((j : Int) - 1) = some (pvI n j) := by
  unfold ixN pvI
  by_cases z : j = 0
  · subst z
    rw [if_neg (by omega), if_pos (by omega), if_pos rfl]
    congr 1
    omega
  · rw [if_pos (by omega), if_pos (by omega), if_neg z]
    congr 1
    omega
theorem at_pvI {xs : List D} {j : Nat} {d : D} (h : j < xs.length) (e : xs[pvI xs.length j]? = some d) : atI xs ((j : Int) - 1) = some d := by
  unfold atI
  rw [ixN_pv h]
  exact e
end RR

namespace RR
open PySem PySem.Spec L2
/-! ### rays of number -1 taken out one by one, and back -/
theorem gp_some {l : List Pt} {i : Nat} {p : Pt} (h : l[i]? = some p) : gp l i = p := by
  unfold gp
  rw [h]
  rfl
theorem cr_out {l : List Pt} (hS : Smooth l) (h2 : 2 ≤ l.length) {j : Nat} (hj : j < l.length) (ht : tagAt l j = -1) : cr (gp l (pvI l.length j)) (gp l (nxI l.length j)) = 1 := by
  unfold tagAt at ht
  omega
theorem smooth_out {l : List Pt} (hS : Smooth l) (h4 : 4 ≤ l.length) {j : Nat} (hj : j < l.length) (ht : tagAt l j = -1) : Smooth (outL l j) ∧ ∀ v, cnt v (outL l j) = cnt v l := by
  obtain ⟨nx, m, pv, e1, e2, k1, k2⟩ := rot_at hj (by omega : 3 ≤ l.length)
  obtain ⟨c1, c2, c3⟩ := cyc_out hS e1 e2
  have h3 : cr pv nx = 1 := by
    have := cr_out hS (by omega) hj ht
    rw [← pvI_mod hj, ← nxI_mod hj, gp_some k1, gp_some k2] at this
    exact this
  refine ⟨c3 h3, fun v => ?_⟩
  have p : ∀ {x y : Pt}, cr x y = 1 → Ps x y := fun e => by unfold Ps; omega
  show cnt v (l.take j ++ l.drop (j + 1)) = _
  rw [cnt_rot, e1, cnt_rot (l := nx :: m)]
  have e3 := cnt_put (v := v) (l := []) (r := m) (p c1) (p c2) (p h3)
  show cnt v ([] ++ pv :: nx :: m) = _
  rw [← e3]
  show cnt v ([pv] ++ l[j] :: nx :: m) = _
  rw [cnt_rot]
  show cnt v (l[j] :: (nx :: m ++ [pv])) = _
  rw [← e2, cnt_rot, List.take_append_drop]
theorem back_out {l : List Pt} (hS : Smooth l) (h4 : 4 ≤ l.length) {j : Nat} (hj : j < l.length) (ht : tagAt l j = -1) (h0 : 0 < j) : putL (outL l j) (j - 1) = l := by
  have hs := (tag_m1 hS (by omega) hj).mp ht
  have e1 : gp (outL l j) (j - 1) = gp l (pvI l.length j) := by
    rw [gp_out hj, if_pos (by omega)]
    unfold pvI
    rw [if_neg (by omega)]
  have ol := outL_length hj
  have e2 : gp (outL l j) (nxI (outL l j).length (j - 1)) = gp l (nxI l.length j) := by
    rw [ol]
    by_cases z : j + 1 = l.length
    · have e : nxI (l.length - 1) (j - 1) = 0 := by unfold nxI; rw [if_pos (by omega)]
      rw [e, gp_out hj, if_pos h0]
      unfold nxI
      rw [if_pos z]
    · have e : nxI (l.length - 1) (j - 1) = j := by unfold nxI; rw [if_neg (by omega)]; omega
      rw [e, gp_out hj, if_neg (by omega)]
      unfold nxI
      rw [if_neg z]
  unfold putL
  rw [e1, e2, hs, show j - 1 + 1 = j by omega]
  have t1 : (outL l j).take j = l.take j := by
    unfold outL
    rw [List.take_append_of_le_length (by rw [List.length_take]; omega), List.take_take, Nat.min_self]
  have t2 : (outL l j).drop j = l.drop (j + 1) := by
    unfold outL
    rw [List.drop_append, List.length_take, Nat.min_eq_left (by omega), Nat.sub_self, List.drop_of_length_le (by rw [List.length_take]; omega)]
    rfl
  rw [t1, t2, gp_eq hj, List.append_assoc]
  have : l.drop j = l[j] :: l.drop (j + 1) := List.drop_eq_getElem_cons hj
  show l.take j ++ (l[j] :: l.drop (j + 1)) = l
  rw [← this, List.take_append_drop]
theorem back_first {l : List Pt} (hS : Smooth l) (h4 : 4 ≤ l.length) (ht : tagAt l 0 = -1) : putL (outL l 0) ((outL l 0).length - 1) = l.drop 1 ++ [gp l 0] := by
  have h0 : 0 < l.length := by omega
  have hs := (tag_m1 hS (by omega) h0).mp ht
  have ol := outL_length h0
  have e1 : gp (outL l 0) ((outL l 0).length - 1) = gp l (pvI l.length 0) := by
    rw [gp_out h0, if_neg (by omega), ol]
    unfold pvI
    rw [if_pos rfl, show l.length - 1 - 1 + 1 = l.length - 1 by omega]
  have e2 : gp (outL l 0) (nxI (outL l 0).length ((outL l 0).length - 1)) = gp l (nxI l.length 0) := by
    have e : nxI (outL l 0).length ((outL l 0).length - 1) = 0 := by unfold nxI; rw [if_pos (by omega)]
    have e' : nxI l.length 0 = 1 := by unfold nxI; rw [if_neg (by omega)]
    rw [e, e', gp_out h0, if_neg (by omega)]
  unfold putL
  rw [e1, e2, hs, show (outL l 0).length - 1 + 1 = (outL l 0).length by omega, List.take_length, List.drop_length, List.append_nil]
  rfl
structure Rw (l : List Pt) : Prop where
  smooth : Smooth l
  one : cnt (1, 0) l = 1
  small : Small l
theorem Rw.out {l : List Pt} (h : Rw l) (h4 : 4 ≤ l.length) {j : Nat} (hj : j < l.length) (ht : tagAt l j = -1) : Rw (outL l j) := by
  obtain ⟨a, b⟩ := smooth_out h.smooth h4 hj ht
  refine ⟨a, (b _).trans h.one, fun p hp => ?_⟩
  rcases List.mem_append.mp hp with z | z
  · exact h.small p (List.mem_of_mem_take z)
  · exact h.small p (List.mem_of_mem_drop z)
/-- the places j, one behind the other, taken out -/
def Goes : List Pt → List Nat → List Pt → Prop
  | l, [], m => l = m
  | l, j :: js, m => (Rw l ∧ 5 ≤ l.length ∧ j < l.length ∧ tagAt l j = -1) ∧ Goes (outL l j) js m
theorem goes_snoc : ∀ {js : List Nat} {l m : List Pt} {j : Nat}, Goes l js m → Rw m → 5 ≤ m.length → j < m.length → tagAt m j = -1 → Goes l (js ++ [j]) (outL m j)
  | [], l, m, j, h, h1, h2, h3, h4 => by
    have h : l = m := h
    subst h
    exact ⟨⟨h1, h2, h3, h4⟩, rfl⟩
  | i :: js, l, m, j, h, h1, h2, h3, h4 => ⟨h.1, goes_snoc h.2 h1 h2 h3 h4⟩
theorem goes_last : ∀ {js : List Nat} {l m : List Pt} {j : Nat}, Goes l (js ++ [j]) m → ∃ g, Goes l js g ∧ (Rw g ∧ 5 ≤ g.length ∧ j < g.length ∧ tagAt g j = -1) ∧ m = outL g j
  | [], l, m, j, h => ⟨l, rfl, h.1, (show outL l j = m from h.2).symm⟩
  | i :: js, l, m, j, h => by
    obtain ⟨g, h1, h2, h3⟩ := goes_last h.2
    exact ⟨g, ⟨h.1, h1⟩, h2, h3⟩
theorem least_of {P : Nat → Prop} : ∀ {n : Nat}, P n → ∃ j, j ≤ n ∧ P j ∧ ∀ i < j, ¬ P i := by
  intro n
  induction n using Nat.strongRecOn with
  | _ n ih =>
    intro h
    by_cases z : ∃ i < n, P i
    · obtain ⟨i, hi, hp⟩ := z
      obtain ⟨j, a, b, c⟩ := ih i hi hp
      exact ⟨j, by omega, b, c⟩
    · exact ⟨n, Nat.le_refl n, h, fun i hi hp => z ⟨i, hi, hp⟩⟩
theorem Rw.ear {l : List Pt} (h : Rw l) (h5 : 5 ≤ l.length) : ∃ j < l.length, tagAt l j = -1 ∧ ∀ i < j, tagAt l i ≠ -1 := by
  obtain ⟨n, hn, ht⟩ := tag_ear h.smooth h5 h.one
  obtain ⟨j, a, b, c⟩ := least_of (P := fun j => tagAt l j = -1) ht
  exact ⟨j, by omega, b, c⟩
theorem goes_len : ∀ {js : List Nat} {l m : List Pt}, Goes l js m → m.length + js.length = l.length
  | [], l, m, h => by
    have h : l = m := h
    subst h
    rfl
  | j :: js, l, m, h => by
    have a := goes_len h.2
    have b := outL_length h.1.2.2.1
    have c := h.1.2.1
    rw [List.length_cons]
    omega
theorem six_m1 (xs : List D) (d : D) (e : Nat) : HT.sIx (xs ++ [d]).length e (some (-1)) = xs.length := by
  show (if (-1 : Int) < 0 then (-1 + ((xs ++ [d]).length : Int)).toNat else min (-1 : Int).toNat (xs ++ [d]).length) = _
  rw [if_pos (by decide), List.length_append]
  simp only [List.length_cons, List.length_nil]
  omega
theorem cut_last {xs : List D} {d : D} : cutD (xs ++ [d]) (some (-1)) none = [d] := by
  unfold cutD
  rw [six_m1, HT.sIx_none, List.drop_left, List.take_of_length_le (by rw [List.length_append]; simp)]
theorem cut_butlast {xs : List D} {d : D} : cutD (xs ++ [d]) none (some (-1)) = xs := by
  unfold cutD
  rw [six_m1, HT.sIx_none, List.drop_zero, Nat.sub_zero, List.take_left]
end RR

/-! LayNst: new tuples with lists of their own; conditions that only look. -/
namespace RR
open PySem PySem.Spec L2
abbrev Itl := List (D ⊕ (Addr × List D))
section
variable {X : Cx} {fx : List Nat} {Wx : WX} {e a b c : Expr} {es : List Expr} {pos : Pos}
/-! ### a tuple is made -/
/-- a part: a slot gives its list away -/
def take1 (q : Addr) (ρ : Rho) : R → Option ((D ⊕ (Addr × List D)) × Rho)
  | .val d => some (.inl d, ρ)
  | .own xs => some (.inr (q, xs), ρ)
  | .var i => match ρ[i]? with
    | some (some (.val d)) => some (.inl d, ρ)
    | some (some (.own xs)) => some (.inr (q, xs), ρ.set i (some (.exc q q [])))
    | _ => none
  | .nst _ _ => none
abbrev TnD := Rho → (Itl → Rho → Prop) → PostX → Prop
def liftN (X : Cx) (fx : List Nat) (Wx : WX) (t : TnD) : TA := fun σ H Q => ∃ (Hs : Hp) (ρ : Rho) (P : Itl → Rho → Prop) (PX : PostX), Rel X.K ⟨Hs, ρ, σ, H⟩ ∧ t ρ P PX ∧
  (∀ g' vs its, Rel X.K g' → GoE fx ⟨Hs, ρ, σ, H⟩ g' → Its X.K g'.Hs g'.H vs its → (ads its).Nodup → (∀ q ∈ ads its, ¬ OwnAt g'.ρ g'.σ q) → (∀ q ∈ ads its, H q = none ∨ OwnAt ρ σ q) → P its g'.ρ → Q vs g'.H) ∧ XOk X fx Wx ⟨Hs, ρ, σ, H⟩ PX
abbrev PvN (X : Cx) (fx : List Nat) (Wx : WX) (es : List Expr) (t : TnD) : Prop := PA X es (liftN X fx Wx t)
def tNilN : TnD := fun ρ P _ => P [] ρ
def tConsN (t : TeD) (u : TnD) : TnD := fun ρ P PX => t ρ (fun r ρ1 => ∀ q : Addr, onSome (take1 q ρ1 r) fun p => u p.2 (fun its ρ3 => P (p.1 :: its) ρ3) PX) PX
theorem pvN_nil : PvN X fx Wx [] tNilN := by
  refine PA.imp pa_nil fun σ H Q h => ?_
  obtain ⟨Hs, ρ, P, PX, hr, ht, hq, hx⟩ := h
  exact hq ⟨Hs, ρ, σ, H⟩ [] [] hr .refl .nil List.nodup_nil (fun _ m => (by simp [ads] at m)) (fun _ m => (by simp [ads] at m)) ht
/-- a slot's list given away -/
theorem give {g : Gst} {i : Nat} {xs : List D} {p : Addr} (h : Rel X.K g) (h1 : g.ρ[i]? = some (some (.own xs))) (h2 : g.σ[i]? = some (some (.ref p))) :
    Rel X.K ⟨g.Hs, g.ρ.set i (some (.exc p p [])), g.σ, g.H⟩ ∧ (∀ a, OwnAt (g.ρ.set i (some (.exc p p []))) g.σ a → OwnAt g.ρ g.σ a ∧ a ≠ p) := by
  have hs : g.σ.set i (some (.ref p)) = g.σ := by
    apply List.ext_getElem?
    intro j
    by_cases e : i = j
    · subst e
      rw [List.getElem?_set_self (List.getElem?_eq_some_iff.mp h2).1, h2]
    · rw [List.getElem?_set_ne e]
  have no : NoL (some (W.exc p p [])) := ⟨fun xs z => (nomatch z), fun _ _ z => (nomatch z), fun _ z => (nomatch z)⟩
  refine ⟨?_, fun a o => ?_⟩
  · have := rel_set_no (X := X) (g := g) (i := i) (w := some (.exc p p [])) (v := some (.ref p)) h no (fun d z => nomatch z) (fun a dd fs z => by cases z; exact ⟨rfl, .inl rfl⟩)
    rwa [hs] at this
  · rw [← hs] at o
    obtain ⟨j, ys, o⟩ := o
    rcases owns_set o with ⟨_, z⟩ | ⟨ne, z⟩
    · exact (owns_val no z).elim
    · refine ⟨⟨j, ys, z⟩, fun y => ne ?_⟩
      subst y
      exact h.sepO j i a ys xs z (.top h1 h2)
/-- what nobody owns may be shared -/
theorem share {g : Gst} {p : Addr} {o : HO} (h : Rel X.K g) (h1 : g.H p = some o) (h2 : g.Hs p = none) (no : ¬ OwnAt g.ρ g.σ p) : Rel X.K ⟨upd g.Hs p o, g.ρ, g.σ, g.H⟩ := by
  have sm : Same g.Hs (upd g.Hs p o) := same_upd h2
  refine ⟨h.len, fun a x ha => ?_, fun i d hd => ?_, fun i xs hx => ?_, h.sepO, fun i q its hx => ?_, fun i a dd fs hx => let ⟨q1, q2⟩ := h.exc i a dd fs hx; ⟨q1, q2.mono sm fun _ k => k⟩, fun i r hx => let ⟨v, q1, q2⟩ := h.reg i r hx; ⟨v, q1, q2.mono sm fun a x m y n => ⟨y, (upd_ne (fun z => no (by rw [← z]; exact ⟨i, [], .reg hx m⟩))).trans n⟩⟩⟩
  · have ha : upd g.Hs p o a = some x := ha
    by_cases e : a = p
    · subst e
      rw [upd_same] at ha
      cases ha
      exact h1
    · rw [upd_ne e] at ha
      exact h.same a x ha
  · obtain ⟨v, a, b⟩ := h.val i d hd
    exact ⟨v, a, dp_mono sm _ _ b⟩
  · obtain ⟨q, us, a, b, c, d⟩ := h.own i xs hx
    refine ⟨q, us, a, b, dpa_mono sm _ _ c, ?_⟩
    have : q ≠ p := fun z => no (by rw [← z]; exact .top hx a)
    show upd g.Hs p o q = none
    rw [upd_ne this]
    exact d
  · obtain ⟨q1, q2⟩ := h.nst i q its hx
    refine ⟨q1, q2.mono sm (fun _ k => k) fun r xs us m y n => ⟨y, ?_⟩⟩
    have : r ≠ p := fun z => no ⟨i, xs, .sub hx (by rw [← z]; exact m)⟩
    show upd g.Hs p o r = none
    rw [upd_ne this]
    exact n
theorem share_ext {g0 g : Gst} {p : Addr} {o : HO} (e : Ext fx g0 g) (h2 : g.Hs p = none) (f : g0.H p = none ∨ OwnAt g0.ρ g0.σ p) (nf : Nfz o := by first | exact Nfz.lst | exact Nfz.tup) : Ext fx g0 ⟨upd g.Hs p o, g.ρ, g.σ, g.H⟩ := by
  refine ⟨e.same.trans (same_upd h2), fun a x ha n => ?_, e.frame, e.dom, e.own, e.fix, e.len⟩
  have ha : upd g.Hs p o a = some x := ha
  by_cases z : a = p
  · rw [z] at ha ⊢
    rw [upd_same] at ha
    have nf : Nfz x := by rw [← Option.some.inj ha]; exact nf
    exact f.imp (fun y => ⟨y, nf⟩) fun y => .inl ⟨y, nf⟩
  · rw [upd_ne z] at ha
    exact e.new a x ha n
theorem go_less {g : Gst} {ρ' : Rho} (kp : Kp g.ρ ρ') (k : ∀ a, OwnAt ρ' g.σ a → OwnAt g.ρ g.σ a) : GoE fx g ⟨g.Hs, ρ', g.σ, g.H⟩ :=
  ⟨⟨.refl _, fun a o x n => (by rw [show (Gst.mk g.Hs ρ' g.σ g.H).Hs = g.Hs from rfl, n] at x; cases x), fun a o x _ => x, fun a o x => ⟨o, x⟩, fun a x => .inl (k a x), fun _ _ => rfl, rfl⟩, rfl, kp⟩
theorem pvN_cons {t : TeD} {u : TnD} (h : Pv X fx Wx e t) (k : PvN X fx Wx es u) (hs : starEach (e :: es) X.env = (false, eval e X.env) :: starEach es X.env := by rfl) : PvN X fx Wx (e :: es) (tConsN t u) := by
  refine PA.imp (pa_cons h k hs) fun σ H Q h => ?_
  obtain ⟨Hs, ρ, P, PX, hr, ht, hq, hx⟩ := h
  refine ⟨Hs, ρ, _, PX, hr, ht, fun g1 v r h1 e1 rp1 p1 => ?_, hx⟩
  -- a part that is data
  have dat : ∀ d, take1 0 g1.ρ r = some (.inl d, g1.ρ) → Dp X.K g1.Hs v d → liftN X fx Wx u σ g1.H (fun vs H' => Q (v :: vs) H') := fun d z dp => by
    obtain ⟨p, q1, q2⟩ := onSome_ex (p1 0)
    rw [z] at q1
    cases q1
    obtain ⟨Hs1, ρ1, σ1, H1⟩ := g1
    obtain rfl : σ1 = σ := e1.sg
    refine ⟨Hs1, ρ1, _, PX, h1, q2, fun g2 vs its h2 e2 i2 nd no fr p2 => ?_, hx.go e1.ext⟩
    refine hq g2 (v :: vs) (.inl d :: its) h2 (e1.trans e2) (.dat (dp_mono e2.ext.same _ _ dp) i2) nd no (fun q m => ?_) p2
    rcases fr q m with z | z
    · left
      cases y : H q with
      | none => rfl
      | some o =>
        obtain ⟨o', w⟩ := e1.ext.dom q o y
        have w : H1 q = some o' := w
        have z : H1 q = none := z
        rw [z] at w; cases w
    · exact (e1.ext.own q z).symm
  -- a part that is a list at p, given by the state behind it
  have lst : ∀ (p : Addr) (us : List V) (xs : List D) (ρ' : Rho), v = .ref p → take1 p g1.ρ r = some (.inr (p, xs), ρ') → Rel X.K ⟨g1.Hs, ρ', g1.σ, g1.H⟩ → Kp g1.ρ ρ' → (∀ a, OwnAt ρ' g1.σ a → OwnAt g1.ρ g1.σ a ∧ a ≠ p) → g1.H p = some (.lst us) → DpAll X.K g1.Hs us xs → g1.Hs p = none → (H p = none ∨ OwnAt ρ σ p) →
      liftN X fx Wx u σ g1.H (fun vs H' => Q (v :: vs) H') := fun p us xs ρ' ev z h1' kp ko y1 y2 y3 y4 => by
    subst ev
    obtain ⟨pp, q1, q2⟩ := onSome_ex (p1 p)
    rw [z] at q1
    cases q1
    have e1' : GoE fx ⟨Hs, ρ, σ, H⟩ ⟨g1.Hs, ρ', g1.σ, g1.H⟩ := e1.trans (go_less kp fun a o => (ko a o).1)
    obtain ⟨Hs1, ρ1, σ1, H1⟩ := g1
    obtain rfl : σ1 = σ := e1.sg
    have np : ¬ OwnAt ρ' σ1 p := fun o => (ko p o).2 rfl
    refine ⟨Hs1, ρ', _, PX, h1', q2, fun g2 vs its h2 e2 i2 nd no fr p2 => ?_, hx.go e1'.ext⟩
    have hp : g2.H p = some (.lst us) := e2.ext.frame p _ y1 np
    have hsp : g2.Hs p = none := e2.ext.hs_none y1 y3 np Mut.lst
    have nm : p ∉ ads its := fun m => by
      rcases fr p m with z | z
      · exact nomatch y1.symm.trans z
      · exact np z
    refine hq g2 (.ref p :: vs) (.inr (p, xs) :: its) h2 (e1'.trans e2) (.lst hp (dpa_mono e2.ext.same _ _ y2) hsp i2) (List.nodup_cons.mpr ⟨nm, nd⟩) (fun q m => ?_) (fun q m => ?_) p2
    · rcases List.mem_cons.mp m with rfl | m
      · intro o
        rcases e2.ext.own q o with z | z
        · exact np z
        · exact nomatch y1.symm.trans z
      · exact no q m
    · rcases List.mem_cons.mp m with rfl | m
      · exact y4
      · rcases fr q m with z | z
        · left
          cases y : H q with
          | none => rfl
          | some o =>
            obtain ⟨o', w⟩ := e1.ext.dom q o y
            have w : H1 q = some o' := w
            have z : H1 q = none := z
            rw [z] at w; cases w
        · exact (e1'.ext.own q z).symm
  cases r with
  | val d => exact dat d rfl rp1
  | nst p its =>
    obtain ⟨_, q1, _⟩ := onSome_ex (p1 0)
    cases q1
  | own xs =>
    obtain ⟨p, us, rfl, y1, y2, y3, y4, y5⟩ := rp1
    exact lst p us xs g1.ρ rfl rfl h1 .refl (fun a o => ⟨o, fun z => y4 (by rw [← z]; exact o)⟩) y1 y2 y3 y5
  | var i =>
    obtain ⟨y1, w, y2⟩ := rp1
    cases w with
    | val d =>
      obtain ⟨v', z1, z2⟩ := h1.val i d y2
      rw [y1] at z1
      cases z1
      exact dat d (by simp [take1, y2]) z2
    | own xs =>
      obtain ⟨p, us, z1, z2, z3, z4⟩ := h1.own i xs y2
      rw [y1] at z1
      cases z1
      obtain ⟨w1, w2⟩ := give h1 y2 y1
      exact lst p us xs _ rfl (by simp [take1, y2]) w1 Kp.set w2 z2 z3 z4 (e1.ext.own p (.top y2 y1)).symm
    | exc a dd fs =>
      obtain ⟨_, q1, _⟩ := onSome_ex (p1 0)
      simp [take1, y2] at q1
    | nst p its =>
      obtain ⟨_, q1, _⟩ := onSome_ex (p1 0)
      simp [take1, y2] at q1
    | reg r =>
      obtain ⟨_, q1, _⟩ := onSome_ex (p1 0)
      simp [take1, y2] at q1
def tTupN (u : TnD) : TeD := fun ρ P PX => u ρ (fun its ρ1 => chk (decide (its.length ≤ 1000000)) <| ∀ p : Addr, P (.nst p its) ρ1) PX
theorem Its.len {K : PySem.W.Frag} {Hs H : Hp} : ∀ {vs : List V} {its : Itl}, Its K Hs H vs its → vs.length = its.length
  | _, _, .nil => rfl
  | _, _, .dat _ t => by rw [List.length_cons, List.length_cons, Its.len t]
  | _, _, .lst _ _ _ t => by rw [List.length_cons, List.length_cons, Its.len t]
theorem pv_tupN {u : TnD} {x1} (h : PvN X fx Wx es u) : Pv X fx Wx (.Tuple es x1 pos) (tTupN u) := by
  refine PE.imp (pe_tup h) fun σ H Q h => ?_
  obtain ⟨Hs, ρ, P, PX, hr, ht, hq, hx⟩ := h
  refine ⟨Hs, ρ, _, PX, hr, ht, fun g1 vs its h1 e1 i1 nd no fr p1 => ?_, hx⟩
  obtain ⟨q2, q3⟩ := chk_and p1
  have q2 := of_decide_eq_true q2
  refine ⟨by rw [i1.len]; exact mill q2, fun p np => ?_⟩
  have n2 : g1.Hs p = none := by
    cases q : g1.Hs p with
    | none => rfl
    | some o =>
      rw [h1.same p o q] at np
      cases np
  have nop : ¬ OwnAt g1.ρ g1.σ p := fun z => by
    obtain ⟨us, w, _⟩ := z.there h1
    rw [np] at w
    cases w
  have r2 := rel_upd (X := X) (o := .tup vs) h1 n2 nop (fun fv z => nomatch z.symm.trans np) (fun us z => nomatch z.symm.trans np)
  have sm : Same g1.H (upd g1.H p (.tup vs)) := same_upd np
  have go : GoE fx g1 ⟨g1.Hs, g1.ρ, g1.σ, upd g1.H p (.tup vs)⟩ := ⟨⟨.refl _, fun a o x n => (by rw [show (Gst.mk g1.Hs g1.ρ g1.σ (upd g1.H p (.tup vs))).Hs = g1.Hs from rfl, n] at x; cases x), fun a o x _ => sm a o x, fun a o x => ⟨o, sm a o x⟩, fun a x => .inl x, fun _ _ => rfl, rfl⟩, rfl, fun i w x => ⟨w, x⟩⟩
  have r3 := share (X := X) (g := ⟨g1.Hs, g1.ρ, g1.σ, upd g1.H p (.tup vs)⟩) (o := .tup vs) r2 upd_same n2 nop
  have np0 : H p = none := by
    cases q : H p with
    | none => rfl
    | some o =>
      obtain ⟨o', z⟩ := e1.ext.dom p o q
      exact nomatch z.symm.trans np
  have e3 : GoE fx ⟨Hs, ρ, σ, H⟩ ⟨upd g1.Hs p (.tup vs), g1.ρ, g1.σ, upd g1.H p (.tup vs)⟩ := ⟨share_ext (g := ⟨g1.Hs, g1.ρ, g1.σ, upd g1.H p (.tup vs)⟩) (e1.trans go).ext n2 (.inl np0), e1.sg, e1.kp⟩
  have npa : ∀ q ∈ ads its, q ≠ p := fun q m z => by
    obtain ⟨xs, m⟩ := ads_mem.mp m
    obtain ⟨us, y, _⟩ := i1.at_ m
    rw [z, np] at y
    cases y
  refine hq ⟨upd g1.Hs p (.tup vs), g1.ρ, g1.σ, upd g1.H p (.tup vs)⟩ (.ref p) (.nst p its) r3 e3 ⟨rfl, ⟨⟨vs, upd_same, i1.mono (same_upd n2) fun q xs us m y n => ⟨sm _ _ y, ?_⟩⟩, nd, vs, upd_same⟩, fun q hq => ?_, fr⟩ (q3 p)
  · show upd g1.Hs p (.tup vs) q = none
    rw [upd_ne (npa q (ads_mem.mpr ⟨xs, m⟩))]
    exact n
  rcases List.mem_cons.mp hq with rfl | m
  · exact nop
  · exact no q m

/-! ### a part of it -/
/-- e[k] -/
def tIxN (k : Nat) (te : TeD) : TeD := fun ρ P PX => te ρ (fun r ρ1 => match r with
  | .nst _ its => onSome its[k]? fun x => match x with
    | .inl d => P (.val d) ρ1
    | .inr (_, xs) => P (.own xs) ρ1
  | _ => False) PX
theorem Its.get {K : PySem.W.Frag} {Hs H : Hp} : ∀ {vs : List V} {its : Itl} {k : Nat} {x : D ⊕ (Addr × List D)}, Its K Hs H vs its → its[k]? = some x → ∃ v, vs[k]? = some v ∧ (∀ d, x = .inl d → Dp K Hs v d) ∧ ∀ q xs, x = .inr (q, xs) → v = .ref q ∧ ∃ us, H q = some (.lst us) ∧ DpAll K Hs us xs ∧ Hs q = none
  | _, _, k, x, .nil, e => by simp at e
  | _, _, 0, x, .dat h t, e => by
    simp at e; subst e
    exact ⟨_, rfl, fun d z => (by cases z; exact h), fun q xs z => (nomatch z)⟩
  | _, _, k + 1, x, .dat h t, e => by
    obtain ⟨v, a, b⟩ := Its.get (k := k) t (by simpa using e)
    exact ⟨v, by simpa using a, b⟩
  | _, _, 0, x, .lst h1 h2 h3 t, e => by
    simp at e; subst e
    exact ⟨_, rfl, fun d z => (nomatch z), fun q xs z => (by cases z; exact ⟨rfl, _, h1, h2, h3⟩)⟩
  | _, _, k + 1, x, .lst h1 h2 h3 t, e => by
    obtain ⟨v, a, b⟩ := Its.get (k := k) t (by simpa using e)
    exact ⟨v, by simpa using a, b⟩
theorem atI_natN {α : Type} {xs : List α} {k : Nat} {v : α} (e : xs[k]? = some v) : atI xs (k : Int) = some v := by
  have hk := (List.getElem?_eq_some_iff.mp e).1
  unfold atI ixN
  rw [if_pos (by omega), if_pos (by omega)]
  show xs[(k : Int).toNat]? = some v
  rw [Int.toNat_natCast]
  exact e
theorem pv_ixN (k : Nat) {te : TeD} {j p2} (he : Pv X fx Wx e te) (hp : PlainIx (.Constant (.int (k : Int)) j p2) := by exact fun _ _ => rfl) : Pv X fx Wx (.Subscript e (.Constant (.int (k : Int)) j p2) pos) (tIxN k te) := by
  refine PE.imp (pe_ix ix_seq he pe_int hp) fun σ H Q h => ?_
  obtain ⟨Hs, ρ, P, PX, hr, ht, hq, hx⟩ := h
  refine ⟨Hs, ρ, _, PX, hr, ht, fun g1 v r h1 e1 rp1 p1 => ?_, hx⟩
  cases r with
  | val d => exact p1.elim
  | own xs => exact p1.elim
  | var i => exact p1.elim
  | nst p its =>
    obtain ⟨rfl, ⟨⟨vs, a, i1⟩, nd, _⟩, no, fr⟩ := rp1
    obtain ⟨x, q1, q2⟩ := onSome_ex p1
    obtain ⟨v, y1, y2, y3⟩ := i1.get q1
    refine .inr (.inl ⟨p, vs, (k : Int), v, rfl, rfl, .inl (.inl a), atI_natN y1, ?_⟩)
    match x, q2, q1, y2, y3 with
    | .inl d, q2, q1, y2, y3 => exact hq g1 v (.val d) h1 e1 (y2 d rfl) q2
    | .inr (q, xs), q2, q1, y2, y3 =>
      obtain ⟨rfl, us, z1, z2, z3⟩ := y3 q xs rfl
      have m : q ∈ ads its := ads_mem.mpr ⟨xs, List.mem_of_getElem? q1⟩
      exact hq g1 (.ref q) (.own xs) h1 e1 ⟨q, us, rfl, z1, z2, z3, no q (List.mem_cons_of_mem _ m), fr q m⟩ q2

/-! ### a, b = a new tuple -/
abbrev TgN := Itl → Rho → (Rho → Prop) → Prop
def liftGN (X : Cx) (fx : List Nat) (g : TgN) : TGs := fun vs σ H Q => ∃ (g0 : Gst) (Hs : Hp) (ρ : Rho) (P : Rho → Prop) (its : Itl), Rel X.K ⟨Hs, ρ, σ, H⟩ ∧ Ext fx g0 ⟨Hs, ρ, σ, H⟩ ∧ Its X.K Hs H vs its ∧ (ads its).Nodup ∧ (∀ q ∈ ads its, ¬ OwnAt ρ σ q) ∧ (∀ q ∈ ads its, g0.H q = none ∨ OwnAt g0.ρ g0.σ q) ∧ g its ρ P ∧ ∀ g', Rel X.K g' → Ext fx g0 g' → P g'.ρ → Q g'.σ g'.H
abbrev PvGN (X : Cx) (fx : List Nat) (es : List Expr) (g : TgN) : Prop := PGs X es (liftGN X fx g)
def gNilN : TgN := fun its ρ P => match its with
  | [] => P ρ
  | _ => False
def gConsN (i : Nat) (u : TgN) : TgN := fun its ρ P => match its with
  | .inl d :: r => u r (ρ.set i (some (.val d))) P
  | .inr (_, xs) :: r => u r (ρ.set i (some (.own xs))) P
  | [] => False
theorem pvGN_nil : PvGN X fx [] gNilN := by
  refine PGs.imp pgs_nil fun vs σ H Q h => ?_
  obtain ⟨g0, Hs, ρ, P, its, hr, e, it, nd, no, fr, hg, hq⟩ := h
  cases it with
  | nil => exact ⟨rfl, hq ⟨Hs, ρ, σ, H⟩ hr e hg⟩
  | dat _ _ => exact hg.elim
  | lst _ _ _ _ => exact hg.elim
theorem pvGN_cons (i : Nat) {x : Str} {u : TgN} {px : Pos} (hN : X.N.Nodup) (hi : X.N[i]? = some x) (hx : Loc X.env.scope x) (h2 : PvGN X fx es u) (hf : X.fn x = true ∨ X.env.scope.names.lookup x = some .local := by first | exact .inl rfl | exact .inr rfl | assumption) (hfx : i ∉ fx := by decide)
    (hs : (assignEach (.Name x px :: es) X.env).map (·.2) = assign (.Name x px) X.env :: (assignEach es X.env).map (·.2) := by rfl) : PvGN X fx (.Name x px :: es) (gConsN i u) := by
  refine PGs.imp (pgs_cons (pg_name hN hi hx hf) h2 hs) fun vs σ H Q h => ?_
  obtain ⟨g0, Hs, ρ, P, its, hr, e, it, nd, no, fr, hg, hq⟩ := h
  cases it with
  | nil => exact hg.elim
  | @dat v d vs its dp t =>
    refine ⟨v, vs, rfl, g0, Hs, _, P, its, set_val (i := i) hr dp, ext_set_val e hfx, t, nd, fun q m o => no q m (own_set_val o), fr, hg, hq⟩
  | @lst q us xs vs its y1 y2 y3 t =>
    have nd' := List.nodup_cons.mp nd
    have nq := no q List.mem_cons_self
    refine ⟨.ref q, vs, rfl, g0, Hs, _, P, its, set_own (i := i) hr y1 y2 y3 nq, ext_set_own e hfx (fr q List.mem_cons_self), t, nd'.2, fun p m o => ?_, fun p m => fr p (List.mem_cons_of_mem _ m), hg, hq⟩
    obtain ⟨j, zs, o⟩ := o
    rcases owns_set o with ⟨rfl, z⟩ | ⟨_, z⟩
    · have w : V.ref q = .ref p := newOwn_of z
      cases w
      exact nd'.1 m
    · exact no p (List.mem_cons_of_mem _ m) ⟨j, zs, z⟩
def tUnN (n : Nat) (te : TeD) (g : TgN) : TsD := fun DD ρ => te ρ (fun r ρ1 => match r with
  | .nst _ its => chk (its.length == n) (g its ρ1 DD.nx)
  | _ => False) DD.ex
theorem pv_unN {k n : Nat} {te : TeD} {g : TgN} {pt : Pos} (hc : X.calm = true) (he : Pv X fx Wx e te) (hg : PvGN X fx es g) (hn : (assignEach es X.env).length = n := by rfl) (hst : (assignEach es X.env).findIdx? (·.1) = none := by rfl)
    (hs : swapsWithSole [.Tuple es k pt] e pos.line X.env = pure false := by rfl) (hw : swappedStores [.Tuple es k pt] e X.env = pure none := by rfl) (h1 : (assignEach [.Tuple es k pt] X.env).map (·.2) = [assign (.Tuple es k pt) X.env] := by rfl) : PvS X fx Wx (.Assign [.Tuple es k pt] e pos) (tUnN n te g) := by
  refine PS.imp (ps_asg he (pg_tup hc hg hn hst) hs hw h1) fun D σ H h => ?_
  obtain ⟨Hs, ρ, DD, hr, ht, hq⟩ := h
  refine ⟨Hs, ρ, _, _, hr, ht, fun g1 v r h1 e1 rp1 p1 => ?_, hq.ex⟩
  cases r with
  | val d => exact p1.elim
  | own xs => exact p1.elim
  | var i => exact p1.elim
  | nst p its =>
    obtain ⟨q1, q2⟩ := chk_and p1
    have q1 : its.length = n := by simpa using q1
    obtain ⟨rfl, ⟨⟨vs, a, i1⟩, nd, _⟩, no, fr⟩ := rp1
    obtain ⟨Hs1, ρ1, σ1, H1⟩ := g1
    obtain rfl : σ1 = σ := e1.sg
    exact ⟨p, vs, rfl, .inl (.inl a), i1.len.trans q1, ⟨Hs, ρ, σ1, H⟩, Hs1, ρ1, _, its, h1, e1.ext, i1, nd, fun q m => no q (List.mem_cons_of_mem _ m), fr, q2, fun g' r' e' z => hq.nx g' r' e' z⟩

/-! ### x = y, and y is not looked at again -/
def tMoveD (i j : Nat) : TsD := fun DD ρ => match ρ[j]? with
  | some (some (.val d)) => DD.nx (ρ.set i (some (.val d)))
  | some (some (.nst p its)) => DD.nx ((ρ.set j (some (.exc p p []))).set i (some (.nst p its)))
  | some (some (.own xs)) => ∀ p, DD.nx ((ρ.set j (some (.exc p p []))).set i (some (.own xs)))
  | _ => False
theorem giveN {g : Gst} {i : Nat} {its : Itl} {p : Addr} (h : Rel X.K g) (h1 : g.ρ[i]? = some (some (.nst p its))) :
    Rel X.K ⟨g.Hs, g.ρ.set i (some (.exc p p [])), g.σ, g.H⟩ ∧ (∀ a, OwnAt (g.ρ.set i (some (.exc p p []))) g.σ a → OwnAt g.ρ g.σ a ∧ a ∉ ads its) := by
  obtain ⟨h2, _⟩ := h.nst i p its h1
  have hs : g.σ.set i (some (.ref p)) = g.σ := by
    apply List.ext_getElem?
    intro j
    by_cases e : i = j
    · subst e
      rw [List.getElem?_set_self (List.getElem?_eq_some_iff.mp h2).1, h2]
    · rw [List.getElem?_set_ne e]
  have no : NoL (some (W.exc p p [])) := ⟨fun xs z => (nomatch z), fun _ _ z => (nomatch z), fun _ z => (nomatch z)⟩
  refine ⟨?_, fun a o => ?_⟩
  · have := rel_set_no (X := X) (g := g) (i := i) (w := some (.exc p p [])) (v := some (.ref p)) h no (fun d z => nomatch z) (fun a dd fs z => by cases z; exact ⟨rfl, .inl rfl⟩)
    rwa [hs] at this
  · rw [← hs] at o
    obtain ⟨j, ys, o⟩ := o
    rcases owns_set o with ⟨_, z⟩ | ⟨ne, z⟩
    · exact (owns_val no z).elim
    · refine ⟨⟨j, ys, z⟩, fun y => ne ?_⟩
      obtain ⟨xs, m⟩ := ads_mem.mp y
      exact h.sepO j i a ys xs z (.sub h1 m)
theorem pv_moveD (i j : Nat) {x y : Str} {px py : Pos} (hN : X.N.Nodup) (hi : X.N[i]? = some x) (hx : Loc X.env.scope x) (hj : X.N[j]? = some y) (hij : i ≠ j) (hv : Vis X.env.scope y := by first | exact Or.inl rfl | exact Or.inr (Or.inl rfl) | exact Or.inr (Or.inr rfl)) (hd : (y == ("__debug__" : Str)) = false := by decide)
    (hcd : (y == ("__classdict__" : Str)) = false := by decide) (hs : swapsWith (.Name y py) (some (.Name x px)) pos.line X.env = pure false := by rfl) (hf : X.fn x = true ∨ X.env.scope.names.lookup x = some .local := by first | exact .inl rfl | exact .inr rfl | assumption) (hfx : i ∉ fx := by decide) :
    PvS X fx Wx (.Assign [.Name x px] (.Name y py) pos) (tMoveD i j) := by
  refine PS.imp (ps_set hN hi hx (pe_var hj hv hd hcd) hs hf) fun D σ H h => ?_
  obtain ⟨Hs, ρ, DD, hr, ht, hq⟩ := h
  unfold tMoveD at ht
  split at ht
  · next d hd =>
    obtain ⟨v, z1, z2⟩ := hr.val j d hd
    exact ⟨v, z1, hq.nx _ (set_val (i := i) hr z2) (ext_set_val .refl hfx) ht⟩
  · next p its hd =>
    obtain ⟨z1, z2⟩ := hr.nst j p its hd
    obtain ⟨w1, w2⟩ := giveN hr hd
    have go := go_less (fx := fx) (g := ⟨Hs, ρ, σ, H⟩) (ρ' := ρ.set j (some (.exc p p []))) Kp.set fun a o => (w2 a o).1
    exact ⟨.ref p, z1, hq.nx _ (set_nst (i := i) w1 z2 fun q m o => (w2 q o).2 m) (ext_set_nst go.ext hfx fun q m => let ⟨xs, m'⟩ := ads_mem.mp m; .inr ⟨j, xs, .sub hd m'⟩) ht⟩
  · next xs hd =>
    obtain ⟨p, us, z1, z2, z3, z4⟩ := hr.own j xs hd
    obtain ⟨w1, w2⟩ := give hr hd z1
    have go := go_less (fx := fx) (g := ⟨Hs, ρ, σ, H⟩) (ρ' := ρ.set j (some (.exc p p []))) Kp.set fun a o => (w2 a o).1
    exact ⟨.ref p, z1, hq.nx _ (set_own (i := i) w1 z2 z3 z4 fun o => (w2 p o).2 rfl) (ext_set_own go.ext hfx (.inr (.top hd z1))) (ht p)⟩
  · exact ht.elim

/-! ### x[k].append(e): a list within is changed -/
def nstAt (ρ : Rho) (i k : Nat) : Option (Addr × Itl × Addr × List D) := match ρ[i]? with
  | some (some (.nst p its)) => match its[k]? with
    | some (.inr (q, xs)) => some (p, its, q, xs)
    | _ => none
  | _ => none
theorem nstAt_of {ρ : Rho} {i k : Nat} {p q : Addr} {its : Itl} {xs : List D} (h : nstAt ρ i k = some (p, its, q, xs)) : ρ[i]? = some (some (.nst p its)) ∧ its[k]? = some (.inr (q, xs)) := by
  unfold nstAt at h
  split at h
  · next hp =>
    split at h
    · next hk => cases h; exact ⟨hp, hk⟩
    · cases h
  · cases h
theorem Its.put {K : PySem.W.Frag} {Hs H : Hp} {q : Addr} {ws : List V} {ys xs : List D} (dp : DpAll K Hs ws ys) : ∀ {vs : List V} {its : Itl} {k : Nat}, Its K Hs H vs its → (ads its).Nodup → its[k]? = some (.inr (q, xs)) → Its K Hs (upd H q (.lst ws)) vs (its.set k (.inr (q, ys))) ∧ ads (its.set k (.inr (q, ys))) = ads its
  | _, _, k, .nil, _, e => by simp at e
  | _, _, 0, .dat h t, _, e => by simp at e
  | _, _, k + 1, .dat h t, nd, e => by
    obtain ⟨a, b⟩ := Its.put (k := k) dp t nd (by simpa using e)
    exact ⟨.dat h a, b⟩
  | _, _, 0, .lst h1 h2 h3 t, nd, e => by
    simp at e
    obtain ⟨rfl, rfl⟩ := e
    have nd := List.nodup_cons.mp nd
    exact ⟨.lst upd_same dp h3 (t.mono (.refl _) fun r zs us m y n => ⟨by rw [upd_ne (fun z => nd.1 (ads_mem.mpr ⟨zs, by rw [← z]; exact m⟩))]; exact y, n⟩), rfl⟩
  | _, _, k + 1, .lst (q := r) h1 h2 h3 t, nd, e => by
    have nd := List.nodup_cons.mp nd
    have e : _ := (show _[k]? = some (Sum.inr (q, xs)) by simpa using e)
    have ne : r ≠ q := fun z => nd.1 (ads_mem.mpr ⟨xs, by rw [z]; exact List.mem_of_getElem? e⟩)
    obtain ⟨a, b⟩ := Its.put (k := k) dp t nd.2 e
    exact ⟨.lst (by rw [upd_ne ne]; exact h1) h2 h3 a, congrArg (r :: ·) b⟩
theorem mutN {g : Gst} {i k : Nat} {p q : Addr} {its : Itl} {xs ys : List D} {vs : List V} (h : Rel X.K g) (h1 : g.ρ[i]? = some (some (.nst p its))) (h2 : its[k]? = some (.inr (q, xs))) (dp : DpAll X.K g.Hs vs ys) :
    Rel X.K ⟨g.Hs, g.ρ.set i (some (.nst p (its.set k (.inr (q, ys))))), g.σ, upd g.H q (.lst vs)⟩ ∧ GoE fx g ⟨g.Hs, g.ρ.set i (some (.nst p (its.set k (.inr (q, ys))))), g.σ, upd g.H q (.lst vs)⟩ := by
  have mq : Sum.inr (q, xs) ∈ its := List.mem_of_getElem? h2
  have ho : Owns g.ρ g.σ i q xs := .sub h1 mq
  have own : OwnAt g.ρ g.σ q := ⟨i, xs, ho⟩
  have hn := own.hs h
  obtain ⟨us0, hq0, mu0⟩ := own.there h
  obtain ⟨s1, ⟨⟨vs0, t0, i0⟩, nd0, hst0⟩⟩ := h.nst i p its h1
  obtain ⟨j1, j2⟩ := i0.put dp nd0 h2
  have np : p ≠ q := fun z => by rw [z, hq0] at t0; exact mu0.1 _ (Option.some.inj t0)
  have ows : ∀ (j : Nat) (a : Addr) (zs : List D), Owns (g.ρ.set i (some (.nst p (its.set k (.inr (q, ys)))))) g.σ j a zs → ∃ zs', Owns g.ρ g.σ j a zs' := fun j a zs o => by
    cases o with
    | top z1 z2 =>
      rcases get_set z1 with ⟨rfl, z⟩ | ⟨ne, z⟩
      · cases z
      · exact ⟨zs, .top z z2⟩
    | sub z1 z2 =>
      rcases get_set z1 with ⟨rfl, z⟩ | ⟨ne, z⟩
      · cases z
        have : a ∈ ads its := by rw [← j2]; exact ads_mem.mpr ⟨_, z2⟩
        obtain ⟨zs', m⟩ := ads_mem.mp this
        exact ⟨zs', .sub h1 m⟩
      · exact ⟨zs, .sub z z2⟩
    | reg z1 z2 =>
      rcases get_set z1 with ⟨rfl, z⟩ | ⟨ne, z⟩
      · cases z
      · exact ⟨zs, .reg z z2⟩
  have ow : ∀ a, OwnAt (g.ρ.set i (some (.nst p (its.set k (.inr (q, ys)))))) g.σ a → OwnAt g.ρ g.σ a := fun a ⟨j, zs, o⟩ => let ⟨zs', o'⟩ := ows j a zs o; ⟨j, zs', o'⟩
  have up : ∀ a o, g.H a = some o → a ≠ q → upd g.H q (.lst vs) a = some o := fun a o x n => by rw [upd_ne n]; exact x
  refine ⟨⟨h.len.trans (List.length_set ..).symm, fun a o ha => ?_, fun j d hd => ?_, fun j zs hz => ?_, fun j k q zs ws a1 a2 => let ⟨_, b1⟩ := ows j q zs a1; let ⟨_, b2⟩ := ows k q ws a2; h.sepO j k q _ _ b1 b2, fun j r jts hx => ?_, fun j a dd fs hx => ?_, fun j r hx => ?_⟩, ⟨⟨.refl _, fun a o x n => (by rw [show (Gst.mk g.Hs (g.ρ.set i (some (.nst p (its.set k (.inr (q, ys)))))) g.σ (upd g.H q (.lst vs))).Hs = g.Hs from rfl, n] at x; cases x), fun a o x n => up a o x fun z => n (by rw [z]; exact own), fun a o x => ?_, fun a x => .inl (ow a x), fun _ _ => rfl, rfl⟩, rfl, Kp.set⟩⟩
  · exact up a o (h.same a o ha) (ne_of_none ha hn)
  · rcases get_set hd with ⟨rfl, z⟩ | ⟨ne, z⟩
    · cases z
    · exact h.val j d z
  · rcases get_set hz with ⟨rfl, z⟩ | ⟨ne, z⟩
    · cases z
    · obtain ⟨r, us, b1, b2, b3, b4⟩ := h.own j zs z
      refine ⟨r, us, b1, up r _ b2 fun w => ne ?_, b3, b4⟩
      exact h.sepO i j q xs zs ho (.top z (by rw [← w]; exact b1))
  · rcases get_set hx with ⟨rfl, z⟩ | ⟨ne, z⟩
    · cases z
      exact ⟨s1, ⟨⟨vs0, up _ _ t0 np, j1⟩, by rw [j2]; exact nd0, hst0⟩⟩
    · obtain ⟨q1, q2⟩ := h.nst j r jts z
      refine ⟨q1, q2.mono (.refl _) (fun us k => up _ _ k fun w => ?_) fun r' zs us m y n => ⟨up _ _ y fun w => ne ?_, n⟩⟩
      · rw [w, hq0] at k; exact mu0.1 _ (Option.some.inj k)
      · exact h.sepO i j q xs zs ho (.sub z (by rw [← w]; exact m))
  · rcases get_set hx with ⟨rfl, z⟩ | ⟨ne, z⟩
    · cases z
    · obtain ⟨q1, q2⟩ := h.exc j a dd fs z
      refine ⟨q1, q2.mono (.refl _) fun fv k => up _ _ k fun w => ?_⟩
      rw [w, hq0] at k; exact mu0.2.1 _ (Option.some.inj k)
  · rcases get_set hx with ⟨rfl, z⟩ | ⟨ne, z⟩
    · cases z
    · obtain ⟨v', q1, q2⟩ := h.reg j r z
      exact ⟨v', q1, q2.mono (.refl _) fun a o m y n => ⟨up _ _ y fun w => ne (h.sepO i j q xs [] ho (.reg z (by rw [← w]; exact m))), n⟩⟩
  · by_cases hp : a = q
    · exact ⟨_, by rw [hp]; exact upd_same⟩
    · exact ⟨o, up a o x hp⟩
def tMetN (i k : Nat) (op : GM) (t : TaD) : TeD := fun ρ P PX => onSome (nstAt ρ i k) fun _ => t ρ (fun rs ρ1 => onSome (allV rs) fun ds => onSome (nstAt ρ1 i k) fun z => op z.2.2.2 ds (fun ys d => P (.val d) (ρ1.set i (some (.nst z.1 (z.2.1.set k (.inr (z.2.2.1, ys)))))))) PX
theorem metN_imp {i k : Nat} {r : V → List V → Hp → VK → Prop} {op : GM} {t : TaD} (hs : SemM X.K r op) (σ : L2.St) (H : Hp) (Q : VK) (h : liftE X fx Wx (tMetN i k op t) σ H Q) : tBM X.K "list" r (tOp (rIx X.K) (L2.tVar i) (tC (.int (k : Int)))) (liftA X fx Wx t) σ H Q := by
  obtain ⟨Hs, ρ, P, PX, hr, ht, hq, hx⟩ := h
  obtain ⟨⟨p, its, q, xs⟩, hx0, ht⟩ := onSome_ex ht
  obtain ⟨a1, a2⟩ := nstAt_of hx0
  obtain ⟨s1, ⟨⟨vs0, t0, i0⟩, nd0, _⟩⟩ := hr.nst i p its a1
  have s1 : σ[i]? = some (some (V.ref p)) := s1
  obtain ⟨v, y1, _, y3⟩ := i0.get a2
  obtain ⟨rfl, us, z1, z2, z3⟩ := y3 q xs rfl
  refine ⟨.ref p, s1, .inr (.inl ⟨p, vs0, (k : Int), .ref q, rfl, rfl, .inl (.inl t0), atI_natN y1, ?_⟩)⟩
  refine ⟨.inl ⟨rfl, us, .inl (.inl z1)⟩, Hs, ρ, _, PX, hr, ht, fun g1 us' rs h1 e1 rp1 p1 => ?_, hx⟩
  obtain ⟨ds, q1, p1⟩ := onSome_ex p1
  obtain ⟨⟨p', its', q', xs'⟩, q2, q3⟩ := onSome_ex p1
  obtain ⟨b1, b2⟩ := nstAt_of q2
  obtain ⟨s2, ⟨⟨vs2, t2, i2⟩, nd2, _⟩⟩ := h1.nst i p' its' b1
  rw [e1.sg] at s2
  have s2 : σ[i]? = some (some (V.ref p')) := s2
  rw [s1] at s2
  cases s2
  have np : ¬ OwnAt ρ σ p := fun z => by
    obtain ⟨us, w, m⟩ := OwnAt.there hr z
    exact m.1 _ (Option.some.inj (w.symm.trans t0))
  have t3 : g1.H p = some (.tup vs0) := e1.ext.frame p _ t0 np
  have ev : vs2 = vs0 := by
    have := t2.symm.trans t3
    cases this
    rfl
  subst ev
  obtain ⟨v', w1, _, w3⟩ := i2.get b2
  obtain ⟨rfl, us2, x1, x2, x3⟩ := w3 q' xs' rfl
  have eq : q' = q := by
    have := w1.symm.trans y1
    cases this
    rfl
  subst eq
  refine hs g1.Hs g1.H q' us2 us' xs' ds _ Q h1.same x1 x2 (rp1.dpa q1) q3 fun ys d ws v pq dw dv => ?_
  obtain ⟨a, b⟩ := mutN (fx := fx) h1 b1 b2 dw
  exact hq _ v (.val d) a (e1.trans b) dv pq
theorem pv_metN (i k : Nat) {x name : Str} {id : String} {r : V → List V → Hp → VK → Prop} {op : GM} {t : TaD} {px p2 ps apos cpos : Pos} {j} (pa : PlainAttrs "list") (slot : Slot "list" name id) (hty : typeOf (.builtin id) = pure (.type "method_descriptor")) (hm : MtR X id r) (hs : SemM X.K r op)
    (ha : PvA X fx Wx (e :: es) t) (hN : X.N[i]? = some x := by rfl) (hv : Vis X.env.scope x := by first | exact Or.inl rfl | exact Or.inr (Or.inl rfl) | exact Or.inr (Or.inr rfl)) (hd : (x == ("__debug__" : Str)) = false := by decide) (hcd : (x == ("__classdict__" : Str)) = false := by decide)
    (hp : PlainIx (.Constant (.int (k : Int)) j p2) := by exact fun _ _ => rfl)
    (hbase : attributeBase (.Subscript (.Name x px) (.Constant (.int (k : Int)) j p2) ps) name X.env (eval (.Subscript (.Name x px) (.Constant (.int (k : Int)) j p2) ps) X.env) = eval (.Subscript (.Name x px) (.Constant (.int (k : Int)) j p2) ps) X.env := by rfl)
    (hfew : ((backTo cpos (starEach (e :: es) X.env)).all (fun x => !x.1) && (backToKw cpos (keywordEach [] X.env)).all (fun x => x.1.isSome)
      && decide ((e :: es).length + ([] : List Keyword).length + (if ([] : List Keyword).isEmpty then 0 else 1) < 30)) = true := by rfl)
    (hline : (apos.endLine == cpos.line) = true := by rfl) (hst : starEach (e :: es) X.env = (false, eval e X.env) :: starEach es X.env := by rfl) (hplain : (backTo cpos (starEach es X.env)).any (·.1) = false := by rfl) :
    Pv X fx Wx (.Call (.Attribute (.Subscript (.Name x px) (.Constant (.int (k : Int)) j p2) ps) name apos) (e :: es) [] cpos) (tMetN i k op t) := PE.imp (pe_bm pa slot hty hm (pe_ix ix_seq (pe_var hN hv hd hcd) pe_int hp) ha hbase hfew hline hst hplain) (metN_imp hs)
theorem pv_metN0 (i k : Nat) {x name : Str} {id : String} {r : V → List V → Hp → VK → Prop} {op : GM} {px p2 ps apos cpos : Pos} {j} (pa : PlainAttrs "list") (slot : Slot "list" name id) (hty : typeOf (.builtin id) = pure (.type "method_descriptor")) (hm : MtR X id r) (hs : SemM X.K r op)
    (hN : X.N[i]? = some x := by rfl) (hv : Vis X.env.scope x := by first | exact Or.inl rfl | exact Or.inr (Or.inl rfl) | exact Or.inr (Or.inr rfl)) (hd : (x == ("__debug__" : Str)) = false := by decide) (hcd : (x == ("__classdict__" : Str)) = false := by decide)
    (hp : PlainIx (.Constant (.int (k : Int)) j p2) := by exact fun _ _ => rfl)
    (hbase : attributeBase (.Subscript (.Name x px) (.Constant (.int (k : Int)) j p2) ps) name X.env (eval (.Subscript (.Name x px) (.Constant (.int (k : Int)) j p2) ps) X.env) = eval (.Subscript (.Name x px) (.Constant (.int (k : Int)) j p2) ps) X.env := by rfl) (hline : (apos.endLine == cpos.line) = true := by rfl) :
    Pv X fx Wx (.Call (.Attribute (.Subscript (.Name x px) (.Constant (.int (k : Int)) j p2) ps) name apos) [] [] cpos) (tMetN i k op tNilA) := by
  refine PE.imp (pe_bm0 pa slot hty hm (pe_ix ix_seq (pe_var hN hv hd hcd) pe_int hp) hbase hline) fun σ H Q h => ?_
  obtain ⟨x, z1, h⟩ := metN_imp (X := X) (fx := fx) (Wx := Wx) (t := tNilA) hs σ H Q h
  refine ⟨x, z1, ?_⟩
  rcases h with ⟨p, xs, i, v, a1, a2, a3, a4, ty, h⟩ | ⟨p, xs, i, v, a1, a2, a3, a4, ty, h⟩ | ⟨z, i, c, a1, a2, a3, a4, ty, h⟩
  · refine .inl ⟨p, xs, i, v, a1, a2, a3, a4, ty, ?_⟩
    obtain ⟨Hs, ρ, P, PX, hr, ht, hq, hx⟩ := h
    exact hq ⟨Hs, ρ, σ, _⟩ [] [] hr .refl trivial ht
  · refine .inr (.inl ⟨p, xs, i, v, a1, a2, a3, a4, ty, ?_⟩)
    obtain ⟨Hs, ρ, P, PX, hr, ht, hq, hx⟩ := h
    exact hq ⟨Hs, ρ, σ, _⟩ [] [] hr .refl trivial ht
  · refine .inr (.inr ⟨z, i, c, a1, a2, a3, a4, ty, ?_⟩)
    obtain ⟨Hs, ρ, P, PX, hr, ht, hq, hx⟩ := h
    exact hq ⟨Hs, ρ, σ, _⟩ [] [] hr .refl trivial ht

/-! ### what only looks: all that the slots hold is data meanwhile -/
def datI : D ⊕ (Addr × List D) → D
  | .inl d => d
  | .inr (_, xs) => .list xs
def lookW : Option W → Option W
  | some (.own xs) => some (.val (.list xs))
  | some (.nst _ its) => some (.val (.tuple (its.map datI)))
  | some (.reg r) => r.dat.map .val
  | w => w
def lookR (ρ : Rho) : Rho := ρ.map lookW
theorem Its.dpa {K : PySem.W.Frag} {Hs H : Hp} (s : Same Hs H) : ∀ {vs : List V} {its : Itl}, Its K Hs H vs its → DpAll K H vs (its.map datI)
  | _, _, .nil => .nil
  | _, _, .dat h t => .cons (dp_mono s _ _ h) (Its.dpa s t)
  | _, _, .lst h1 h2 _ t => .cons (.lst (.inl (.inl h1)) (dpa_mono s _ _ h2)) (Its.dpa s t)
theorem look_get {ρ : Rho} {i : Nat} {w : W} (h : (lookR ρ)[i]? = some (some w)) : ∃ w0, ρ[i]? = some (some w0) ∧ lookW (some w0) = some w := by
  unfold lookR at h
  rw [List.getElem?_map] at h
  cases q : ρ[i]? with
  | none => rw [q] at h; cases h
  | some o =>
    rw [q] at h
    cases o with
    | none => cases h
    | some w0 => exact ⟨w0, rfl, Option.some.inj h⟩
theorem look_no {ρ : Rho} {σ : L2.St} {a : Addr} : ¬ OwnAt (lookR ρ) σ a := fun ⟨i, xs, o⟩ => by
  cases o with
  | top h1 _ =>
    obtain ⟨w0, _, z⟩ := look_get h1
    cases w0 <;> simp [lookW] at z
  | sub h1 _ =>
    obtain ⟨w0, _, z⟩ := look_get h1
    cases w0 <;> simp [lookW] at z
  | reg h1 _ =>
    obtain ⟨w0, _, z⟩ := look_get h1
    cases w0 <;> simp [lookW] at z
theorem look_rel {Hs H : Hp} {ρ : Rho} {σ : L2.St} (h : Rel X.K ⟨Hs, ρ, σ, H⟩) : Rel X.K ⟨H, lookR ρ, σ, H⟩ := by
  have hs : Same Hs H := h.same
  refine ⟨h.len.trans (List.length_map _).symm, .refl _, fun i d hd => ?_, fun i xs hx => ?_, fun i j p xs ys a _ => absurd ⟨i, xs, a⟩ look_no, fun i p its hx => ?_, fun i a dd fs hx => ?_, fun i r hx => ?_⟩
  · obtain ⟨w0, h1, z⟩ := look_get hd
    cases w0 with
    | val d' =>
      simp [lookW] at z
      subst z
      obtain ⟨v, a, b⟩ := h.val i d' h1
      exact ⟨v, a, dp_mono hs _ _ b⟩
    | own xs =>
      simp [lookW] at z
      subst z
      obtain ⟨p, us, a, b, c, _⟩ := h.own i xs h1
      exact ⟨_, a, .lst (.inl (.inl b)) (dpa_mono hs _ _ c)⟩
    | exc a dd fs => simp [lookW] at z
    | nst p its =>
      simp [lookW] at z
      subst z
      obtain ⟨a, ⟨vs, b, c⟩, _⟩ := h.nst i p its h1
      exact ⟨_, a, .tup (.inl (.inl b)) (c.dpa hs)⟩
    | reg r =>
      simp [lookW] at z
      obtain ⟨v, a, b, _⟩ := h.reg i r h1
      exact ⟨v, a, r.look b hs z⟩
  · obtain ⟨w0, _, z⟩ := look_get hx
    cases w0 <;> simp [lookW] at z
  · obtain ⟨w0, _, z⟩ := look_get hx
    cases w0 <;> simp [lookW] at z
  · obtain ⟨w0, h1, z⟩ := look_get hx
    cases w0 with
    | exc a' dd' fs' =>
      simp [lookW] at z
      obtain ⟨rfl, rfl, rfl⟩ := z
      obtain ⟨q1, q2⟩ := h.exc i a' dd' fs' h1
      exact ⟨q1, q2.mono hs fun _ k => k⟩
    | _ => simp [lookW] at z
  · obtain ⟨w0, h1, z⟩ := look_get hx
    cases w0 <;> simp [lookW] at z
theorem look_back {Hs H : Hp} {ρ : Rho} {σ : L2.St} (h : Rel X.K ⟨Hs, ρ, σ, H⟩) {g' : Gst} (e : GoE fx ⟨H, lookR ρ, σ, H⟩ g') : Rel X.K ⟨Hs, ρ, σ, g'.H⟩ ∧ GoE fx ⟨Hs, ρ, σ, H⟩ ⟨Hs, ρ, σ, g'.H⟩ := by
  have sm : Same H g'.H := fun a o x => e.ext.frame a o x look_no
  refine ⟨⟨h.len, h.same.trans sm, h.val, fun i xs hx => ?_, h.sepO, fun i p its hx => let ⟨q1, q2⟩ := h.nst i p its hx; ⟨q1, q2.mono (.refl _) (fun _ k => sm _ _ k) fun q xs us _ y n => ⟨sm _ _ y, n⟩⟩, fun i a dd fs hx => let ⟨q1, q2⟩ := h.exc i a dd fs hx; ⟨q1, q2.mono (.refl _) fun _ k => sm _ _ k⟩, fun i r hx => let ⟨v, q1, q2⟩ := h.reg i r hx; ⟨v, q1, q2.mono (.refl _) fun _ _ _ y n => ⟨sm _ _ y, n⟩⟩⟩, ⟨⟨.refl _, fun a o x n => (by have x : Hs a = some o := x; have n : Hs a = none := n; rw [n] at x; cases x), fun a o x _ => sm a o x, fun a o x => ⟨o, sm a o x⟩, fun a x => .inl x, fun _ _ => rfl, rfl⟩, rfl, fun i w x => ⟨w, x⟩⟩⟩
  obtain ⟨q, us, a, b, c, d⟩ := h.own i xs hx
  exact ⟨q, us, a, sm _ _ b, c, d⟩
/-- a condition -/
def tLookT (t : TtD) : TtD := fun ρ P _ => t (lookR ρ) (fun b _ => P b ρ) (fun _ _ => False)
theorem pvT_look {t : TtD} (h : PvT X fx Wx e t) : PvT X fx Wx e (tLookT t) := by
  refine PT.imp h fun σ H Q h => ?_
  obtain ⟨Hs, ρ, P, PX, hr, ht, hq, hx⟩ := h
  refine ⟨H, lookR ρ, _, _, look_rel hr, ht, fun g' b r' e' p => ?_, fun _ _ _ _ _ _ _ z => z.elim⟩
  obtain ⟨a, c⟩ := look_back hr e'
  exact hq ⟨Hs, ρ, σ, g'.H⟩ b a c p
/-- an expression that gives a flat thing -/
def tLookE (t : TeD) : TeD := fun ρ P _ => t (lookR ρ) (fun r ρ1 => onSome (rd ρ1 r) fun d => chk (flatD d) (P (.val d) ρ)) (fun _ _ => False)
theorem lk_flat {K : PySem.W.Frag} {Hs H H' : Hp} {v : V} {d : D} (f : flatD d = true) (h : Lk K Hs H v d) : Dp K H' v d := by
  rcases h with h | ⟨_, _, _, _, rfl, _⟩
  · exact dp_flat f h
  · cases f
theorem pv_look {t : TeD} (h : Pv X fx Wx e t) : Pv X fx Wx e (tLookE t) := by
  refine PE.imp h fun σ H Q h => ?_
  obtain ⟨Hs, ρ, P, PX, hr, ht, hq, hx⟩ := h
  refine ⟨H, lookR ρ, _, _, look_rel hr, ht, fun g' v r r' e' rp p => ?_, fun _ _ _ _ _ _ _ z => z.elim⟩
  obtain ⟨a, c⟩ := look_back hr e'
  obtain ⟨d, q1, q2⟩ := onSome_ex p
  obtain ⟨fl, q2⟩ := chk_and q2
  exact hq ⟨Hs, ρ, σ, g'.H⟩ v (.val d) a c (lk_flat fl (rp.lk r' q1)) q2
/-! ### a new tuple made data -/
theorem shareN {g0 : Gst} : ∀ {its : Itl} {vs : List V} {g : Gst}, Rel X.K g → Ext fx g0 g → Its X.K g.Hs g.H vs its → (ads its).Nodup → (∀ q ∈ ads its, ¬ OwnAt g.ρ g.σ q) → (∀ q ∈ ads its, g0.H q = none ∨ OwnAt g0.ρ g0.σ q) →
    ∃ Hs', Rel X.K ⟨Hs', g.ρ, g.σ, g.H⟩ ∧ Ext fx g0 ⟨Hs', g.ρ, g.σ, g.H⟩ ∧ Same g.Hs Hs' ∧ DpAll X.K Hs' vs (its.map datI)
  | [], _, g, h, e, .nil, _, _, _ => ⟨g.Hs, h, e, .refl _, .nil⟩
  | .inl d :: its, _, g, h, e, .dat dp t, nd, no, fr => by
    obtain ⟨Hs', a, b, c, dd⟩ := shareN h e t nd no fr
    exact ⟨Hs', a, b, c, .cons (dp_mono c _ _ dp) dd⟩
  | .inr (q, xs) :: its, _, g, h, e, .lst (us := us) (vs := vs) y1 y2 y3 t, nd, no, fr => by
    have nd := List.nodup_cons.mp nd
    have r2 := share (X := X) (o := .lst us) h y1 y3 (no q List.mem_cons_self)
    have e2 := share_ext (o := .lst us) e y3 (fr q List.mem_cons_self)
    have s1 : Same g.Hs (upd g.Hs q (.lst us)) := same_upd y3
    obtain ⟨Hs', a, b, c, dd⟩ := shareN (g := ⟨upd g.Hs q (.lst us), g.ρ, g.σ, g.H⟩) (vs := vs) r2 e2 (t.mono s1 fun r zs ws m y n => ⟨y, by
      show upd g.Hs q (.lst us) r = none
      rw [upd_ne (fun z => nd.1 (ads_mem.mpr ⟨zs, by rw [← z]; exact m⟩))]
      exact n⟩) nd.2 (fun r m => no r (List.mem_cons_of_mem _ m)) (fun r m => fr r (List.mem_cons_of_mem _ m))
    exact ⟨Hs', a, b, s1.trans c, .cons (.lst (.inl (.inl (c _ _ upd_same))) (dpa_mono (s1.trans c) _ _ y2)) dd⟩
def tDatN (te : TeD) : TeD := fun ρ P PX => te ρ (fun r ρ1 => match r with
  | .nst _ its => P (.val (.tuple (its.map datI))) ρ1
  | r => P r ρ1) PX
theorem pv_datN {te : TeD} (h : Pv X fx Wx e te) : Pv X fx Wx e (tDatN te) := by
  refine PE.imp h fun σ H Q h => ?_
  obtain ⟨Hs, ρ, P, PX, hr, ht, hq, hx⟩ := h
  refine ⟨Hs, ρ, _, PX, hr, ht, fun g1 v r h1 e1 rp1 p1 => ?_, hx⟩
  cases r with
  | val d => exact hq g1 v _ h1 e1 rp1 p1
  | own xs => exact hq g1 v _ h1 e1 rp1 p1
  | var i => exact hq g1 v _ h1 e1 rp1 p1
  | nst p its =>
    obtain ⟨rfl, ⟨⟨vs, a, i1⟩, nd, ts, st⟩, no, fr⟩ := rp1
    obtain ⟨Hs', r', e', sm, dd⟩ := shareN h1 e1.ext i1 nd (fun q m => no q (List.mem_cons_of_mem _ m)) fr
    have ev : ts = vs := by
      have := (h1.same _ _ st).symm.trans a
      cases this
      rfl
    subst ev
    exact hq ⟨Hs', g1.ρ, g1.σ, g1.H⟩ (.ref p) (.val (.tuple (its.map datI))) r' ⟨e', e1.sg, e1.kp⟩ (.tup (.inl (.inl (sm _ _ st))) dd) p1
end
end RR

/-! LayNstI: x[k][c] = v, x a tuple that holds lists of its own. -/
namespace RR
open PySem PySem.Spec PyProof.Rows L2
variable {X : Cx} {fx : List Nat} {Wx : WX} {e a : Expr} {pos : Pos}
def tItemN (i k : Nat) (tk te : TeD) : TsD := fun DD ρ => te ρ (fun r ρ1 => onSome (fz ρ1 r) fun p => onSome (nstAt p.2 i k) fun _ => tk p.2 (fun rk ρ3 => onSome (asI (rd ρ3 rk)) fun c => onSome (nstAt ρ3 i k) fun z => onSome (ixN z.2.2.2.length c) fun j => DD.nx (ρ3.set i (some (.nst z.1 (z.2.1.set k (.inr (z.2.2.1, z.2.2.2.set j p.1))))))) DD.ex) DD.ex
theorem pv_itemN (i k : Nat) {x : Str} {tk te : TeD} {px p2 ps tpos : Pos} {jj} (he : Pv X fx Wx e te) (hk : Pv X fx Wx a tk) (hN : X.N[i]? = some x := by rfl) (hv : Vis X.env.scope x := by first | exact Or.inl rfl | exact Or.inr (Or.inl rfl) | exact Or.inr (Or.inr rfl)) (hd : (x == ("__debug__" : Str)) = false := by decide) (hcd : (x == ("__classdict__" : Str)) = false := by decide)
    (hp : PlainIx (.Constant (.int (k : Int)) jj p2) := by exact fun _ _ => rfl)
    (hs : swapsWithSole [.Subscript (.Subscript (.Name x px) (.Constant (.int (k : Int)) jj p2) ps) a tpos] e pos.line X.env = pure false := by rfl) (hw : swappedStores [.Subscript (.Subscript (.Name x px) (.Constant (.int (k : Int)) jj p2) ps) a tpos] e X.env = pure none := by rfl) (h1 : (assignEach [.Subscript (.Subscript (.Name x px) (.Constant (.int (k : Int)) jj p2) ps) a tpos] X.env).map (·.2) = [assign (.Subscript (.Subscript (.Name x px) (.Constant (.int (k : Int)) jj p2) ps) a tpos) X.env] := by rfl)
    (ha : ∀ v, assign (.Subscript (.Subscript (.Name x px) (.Constant (.int (k : Int)) jj p2) ps) a tpos) X.env v = (do
      let ov ← holding [v] (eval (.Subscript (.Name x px) (.Constant (.int (k : Int)) jj p2) ps) X.env)
      let iv ← holding [v, ov] (eval a X.env)
      standAt tpos
      holding [v, ov, iv] (setItem ov iv v)
      release [v, ov, iv] []) := by intro _; rfl) :
    PvS X fx Wx (.Assign [.Subscript (.Subscript (.Name x px) (.Constant (.int (k : Int)) jj p2) ps) a tpos] e pos) (tItemN i k tk te) := by
  refine PS.imp (ps_asg he (pg_sub (pe_ix ix_seq (pe_var (i := i) hN hv hd hcd) pe_int hp) hk set_list ha) hs hw h1) fun D σ H h => ?_
  obtain ⟨Hs, ρ, DD, hr, ht, hq⟩ := h
  refine ⟨Hs, ρ, _, _, hr, ht, fun g1 v r h1 e1 rp p1 => ?_, hq.ex⟩
  obtain ⟨⟨d, ρ2⟩, q1, p1⟩ := onSome_ex p1
  obtain ⟨⟨p, its, q, xs⟩, q2, q3⟩ := onSome_ex p1
  obtain ⟨a1, a2⟩ := nstAt_of q2
  obtain ⟨Hs2, h2, e2, dp, kp, _⟩ := freeze e1.ext h1 rp q1
  obtain ⟨Hs1, ρ1, σ1, H1⟩ := g1
  obtain rfl : σ1 = σ := e1.sg
  obtain ⟨s1, ⟨⟨vs0, t0, i0⟩, nd0, _⟩⟩ := h2.nst i p its a1
  have s1 : σ1[i]? = some (some (V.ref p)) := s1
  obtain ⟨w0, y1, _, y3⟩ := i0.get a2
  obtain ⟨rfl, us, z1, z2, z3⟩ := y3 q xs rfl
  refine ⟨.ref p, s1, .inr (.inl ⟨p, vs0, (k : Int), .ref q, rfl, rfl, .inl (.inl t0), atI_natN y1, ?_⟩)⟩
  refine ⟨Hs2, ρ2, _, _, h2, q3, fun g3 w rk h3 e3 rp3 p3 => ?_, hq.ex.go e2⟩
  obtain ⟨c, y1', p3⟩ := onSome_ex p3
  obtain ⟨⟨p', its', q', xs'⟩, y2, p3⟩ := onSome_ex p3
  obtain ⟨j, y3', y4⟩ := onSome_ex p3
  obtain ⟨b1, b2⟩ := nstAt_of y2
  have hi := (rp3.lk h3 (asI_of y1')).int
  subst hi
  obtain ⟨s2, ⟨⟨vs2, t2, i2⟩, nd2, _⟩⟩ := h3.nst i p' its' b1
  rw [e3.sg] at s2
  have s2 : σ1[i]? = some (some (V.ref p')) := s2
  rw [s1] at s2
  cases s2
  have np : ¬ OwnAt ρ2 σ1 p := fun z => by
    obtain ⟨us, w, m⟩ := OwnAt.there h2 z
    exact m.1 _ (Option.some.inj (w.symm.trans t0))
  have t3 : g3.H p = some (.tup vs0) := e3.ext.frame p _ t0 np
  have ev : vs2 = vs0 := by
    have := t2.symm.trans t3
    cases this
    rfl
  subst ev
  obtain ⟨v', w1, _, w3⟩ := i2.get b2
  obtain ⟨rfl, us2, x1, x2, x3⟩ := w3 q' xs' rfl
  have eq : q' = q := by
    have := w1.symm.trans y1
    cases this
    rfl
  subst eq
  refine ⟨q', us2, c, j, rfl, rfl, x1, by rw [dpa_len x2]; exact y3', ?_⟩
  obtain ⟨m1, m2⟩ := mutN (fx := fx) h3 b1 b2 (dpa_set j x2 (dp_mono e3.ext.same _ _ dp))
  have := hq.nx _ m1 ((e2.trans e3.ext).trans m2.ext) y4
  have sg : g3.σ = σ1 := e3.sg
  simp only [sg] at this
  exact this
/-- a part of a new tuple that is a slot's list, given away when all parts are there -/
def tConsL (i : Nat) (u : TnD) : TnD := fun ρ P PX => onSome (ownAt ρ i) fun _ => u ρ (fun its ρ3 => onSome (ownAt ρ3 i) fun xs => ∀ q : Addr, P (.inr (q, xs) :: its) (ρ3.set i (some (.exc q q [])))) PX
theorem pvN_consL (i : Nat) {x : Str} {px : Pos} {es : List Expr} {u : TnD} (k : PvN X fx Wx es u) (hN : X.N[i]? = some x := by rfl) (hv : Vis X.env.scope x := by first | exact Or.inl rfl | exact Or.inr (Or.inl rfl) | exact Or.inr (Or.inr rfl)) (hd : (x == ("__debug__" : Str)) = false := by decide) (hcd : (x == ("__classdict__" : Str)) = false := by decide)
    (hs : starEach (.Name x px :: es) X.env = (false, eval (.Name x px) X.env) :: starEach es X.env := by rfl) : PvN X fx Wx (.Name x px :: es) (tConsL i u) := by
  refine PA.imp (pa_cons (pe_var (i := i) hN hv hd hcd) k hs) fun σ H Q h => ?_
  obtain ⟨Hs, ρ, P, PX, hr, ht, hq, hx⟩ := h
  obtain ⟨xs, o1, ht⟩ := onSome_ex ht
  have o1 := ownAt_of o1
  obtain ⟨p, vs0, z1, z2, z3, z4⟩ := hr.own i xs o1
  have z1 : σ[i]? = some (some (V.ref p)) := z1
  refine ⟨.ref p, z1, Hs, ρ, _, PX, hr, ht, fun g2 vs its h2 e2 i2 nd no fr p2 => ?_, hx⟩
  obtain ⟨xs', o2, p2⟩ := onSome_ex p2
  have o2 := ownAt_of o2
  obtain ⟨p', us, w1, w2, w3, w4⟩ := h2.own i xs' o2
  have w1' := w1
  rw [e2.sg] at w1'
  have w1' : σ[i]? = some (some (V.ref p')) := w1'
  rw [z1] at w1'
  cases w1'
  obtain ⟨w5, w6⟩ := give h2 o2 w1
  have nm : p ∉ ads its := fun m => no p m ⟨i, xs', .top o2 w1⟩
  refine hq ⟨g2.Hs, g2.ρ.set i (some (.exc p p [])), g2.σ, g2.H⟩ (.ref p :: vs) (.inr (p, xs') :: its) w5 (e2.trans (go_less Kp.set fun a o => (w6 a o).1)) (.lst w2 w3 w4 i2) (List.nodup_cons.mpr ⟨nm, nd⟩) (fun q m => ?_) (fun q m => ?_) (p2 p)
  · rcases List.mem_cons.mp m with rfl | m
    · exact fun o => (w6 q o).2 rfl
    · exact fun o => no q m (w6 q o).1
  · rcases List.mem_cons.mp m with rfl | m
    · exact .inr ⟨i, xs, .top o1 z1⟩
    · exact fr q m
end RR

/-! LayLook: expressions that only look at what the slots hold, and give what has no list within it. -/
namespace RR
open PySem PySem.Spec L2
/-- the shared part, and what else stands there and is never changed -/
def imHs (Hs Hs' : Hp) : Hp := fun a => match Hs a with
  | some o => some o
  | none => match Hs' a with
    | some (.tup vs) => some (.tup vs)
    | some (.frz b (.tup vs)) => some (.frz b (.tup vs))
    | _ => none
theorem imHs_same {Hs Hs' : Hp} : Same Hs (imHs Hs Hs') := fun a o h => by
  unfold imHs
  rw [h]
theorem imHs_of {Hs Hs' : Hp} {a : Addr} {o : HO} (s : Same Hs Hs') (h : Hs' a = some o) (m : Imm o) : imHs Hs Hs' a = some o := by
  unfold imHs
  cases q : Hs a with
  | some o' =>
    have := (s a o' q).symm.trans h
    exact this
  | none =>
    rcases m with ⟨vs, rfl⟩ | ⟨b, u, rfl⟩
    · rw [h]
    · rw [h]
theorem imHs_get {Hs Hs' : Hp} {a : Addr} {o : HO} (h : imHs Hs Hs' a = some o) : Hs a = some o ∨ (Hs' a = some o ∧ Imm o) := by
  unfold imHs at h
  split at h
  · next o' q => exact .inl (by rw [q]; exact h)
  · split at h
    · next vs q => cases h; exact .inr ⟨q, .inl ⟨vs, rfl⟩⟩
    · next b vs q => cases h; exact .inr ⟨q, .inr ⟨b, vs, rfl⟩⟩
    · cases h
theorem imHs_none {Hs Hs' H' : Hp} {a : Addr} {o : HO} (s : Same Hs' H') (n : Hs a = none) (h : H' a = some o) (m : Mut o) : imHs Hs Hs' a = none := by
  cases q : imHs Hs Hs' a with
  | none => rfl
  | some o' =>
    rcases imHs_get q with z | ⟨z, w⟩
    · rw [n] at z; cases z
    · have : o' = o := Option.some.inj ((s a o' z).symm.trans h)
      exact absurd (this ▸ w) m.not
/-! no list stands in it -/
mutual
def noL : D → Bool
  | .list _ => false
  | .tuple ds => noLs ds
  | _ => true
def noLs : List D → Bool
  | [] => true
  | d :: ds => noL d && noLs ds
end
theorem sqT_im {K : PySem.W.Frag} {Hs Hs' : Hp} {a : Addr} {xs : List V} (s : Same Hs Hs') (h : SqT K Hs' a xs) : SqT K (imHs Hs Hs') a xs := by
  rcases h with (h | ⟨o, h⟩) | h
  · exact .inl (.inl (imHs_of s h (.inl ⟨_, rfl⟩)))
  · exact .inl (.inr ⟨o, imHs_of s h (.inr ⟨_, _, rfl⟩)⟩)
  · exact .inr h
mutual
theorem dp_im {K : PySem.W.Frag} {Hs Hs' : Hp} (s : Same Hs Hs') : ∀ (d : D) (v : V), noL d = true → Dp K Hs' v d → Dp K (imHs Hs Hs') v d
  | .none, _, _, h => by cases h; exact .non
  | .bool b, _, _, h => by cases h; exact .bl b
  | .int i, _, _, h => by cases h; exact .int i
  | .str x, _, _, h => by cases h; exact .str x
  | .list ds, _, n, _ => by simp [noL] at n
  | .tuple ds, _, n, h => by
    cases h with
    | tup h1 h2 => exact .tup (sqT_im s h1) (dpa_im s ds _ (by simpa [noL] using n) h2)
theorem dpa_im {K : PySem.W.Frag} {Hs Hs' : Hp} (s : Same Hs Hs') : ∀ (ds : List D) (vs : List V), noLs ds = true → DpAll K Hs' vs ds → DpAll K (imHs Hs Hs') vs ds
  | [], _, _, h => by cases h; exact .nil
  | d :: ds, _, n, h => by
    simp only [noLs, Bool.and_eq_true] at n
    cases h with
    | cons h1 h2 => exact .cons (dp_im s d _ n.1 h1) (dpa_im s ds _ n.2 h2)
end
section
variable {X : Cx} {fx : List Nat} {Wx : WX} {e : Expr}
theorem look_backI {Hs H : Hp} {ρ : Rho} {σ : L2.St} (h : Rel X.K ⟨Hs, ρ, σ, H⟩) {g' : Gst} (r' : Rel X.K g') (e : GoE fx ⟨H, lookR ρ, σ, H⟩ g') : Rel X.K ⟨imHs Hs g'.Hs, ρ, σ, g'.H⟩ ∧ GoE fx ⟨Hs, ρ, σ, H⟩ ⟨imHs Hs g'.Hs, ρ, σ, g'.H⟩ := by
  have sm : Same H g'.H := fun a o x => e.ext.frame a o x look_no
  have s1 : Same Hs g'.Hs := (show Same Hs H from h.same).trans e.ext.same
  have sI : Same Hs (imHs Hs g'.Hs) := imHs_same
  have no : ∀ a o, H a = some o → Hs a = none → Mut o → imHs Hs g'.Hs a = none := fun a o y n m => imHs_none r'.same n (sm a o y) m
  refine ⟨⟨h.len, fun a o x => ?_, fun i d hd => ?_, fun i xs hx => ?_, h.sepO, fun i p its hx => let ⟨q1, q2⟩ := h.nst i p its hx; ⟨q1, q2.mono sI (fun _ k => sm _ _ k) fun q xs us _ y n => ⟨sm _ _ y, no _ _ y n Mut.lst⟩⟩, fun i a dd fs hx => let ⟨q1, q2⟩ := h.exc i a dd fs hx; ⟨q1, q2.mono sI fun _ k => sm _ _ k⟩, fun i r hx => let ⟨v, q1, q2⟩ := h.reg i r hx; ⟨v, q1, q2.mono sI fun a o m y n => ⟨sm _ _ y, ?_⟩⟩⟩, ⟨⟨sI, fun a o x n => ?_, fun a o x _ => sm a o x, fun a o x => ⟨o, sm a o x⟩, fun a x => .inl x, fun _ _ => rfl, rfl⟩, rfl, fun i w x => ⟨w, x⟩⟩⟩
  · rcases imHs_get x with z | ⟨z, _⟩
    · exact sm a o (h.same a o z)
    · exact r'.same a o z
  · obtain ⟨v, a, b⟩ := h.val i d hd
    exact ⟨v, a, dp_mono sI _ _ b⟩
  · obtain ⟨q, us, a, b, c, d⟩ := h.own i xs hx
    exact ⟨q, us, a, sm _ _ b, dpa_mono sI _ _ c, no _ _ b d Mut.lst⟩
  · obtain ⟨o1, y1, mu⟩ := r.there q2.1 m
    have : o1 = o := Option.some.inj (y1.symm.trans y)
    exact no _ _ y n (this ▸ mu)
  · rcases imHs_get x with z | ⟨z, w⟩
    · have n : Hs a = none := n
      rw [n] at z; cases z
    · cases q : H a with
      | none => exact .inl ⟨q, w.nfz⟩
      | some o1 =>
        have : o1 = o := Option.some.inj ((e.ext.same a o1 q).symm.trans z)
        exact .inr (.inr ⟨w, by rw [← this]; exact q⟩)
/-- all slots are looked at alone; what comes has no list within -/
def tLookX (t : TeD) : TeD := fun ρ P _ => t (lookR ρ) (fun r ρ1 => match r with
  | .own xs => noLs xs = true ∧ P (.own xs) ρ
  | r => onSome (rd ρ1 r) fun d => noL d = true ∧ P (.val d) ρ) (fun _ _ => False)
theorem pv_lookX {t : TeD} (h : Pv X fx Wx e t) : Pv X fx Wx e (tLookX t) := by
  refine PE.imp h fun σ H Q h => ?_
  obtain ⟨Hs, ρ, P, PX, hr, ht, hq, hx⟩ := h
  refine ⟨H, lookR ρ, _, _, look_rel hr, ht, fun g' v r r' e' rp p => ?_, fun _ _ _ _ _ _ _ z => z.elim⟩
  obtain ⟨a, c⟩ := look_backI hr r' e'
  have s1 : Same Hs g'.Hs := (show Same Hs H from hr.same).trans e'.ext.same
  have dat : ∀ (d : D), rd g'.ρ r = some d → noL d = true → P (.val d) ρ → Q v g'.H := fun d q1 fl q2 => by
    refine hq ⟨imHs Hs g'.Hs, ρ, σ, g'.H⟩ v (.val d) a c ?_ q2
    rcases rp.lk r' q1 with z | ⟨_, _, _, _, rfl, _⟩
    · exact dp_im s1 d v fl z
    · simp [noL] at fl
  cases r with
  | own xs =>
    obtain ⟨fl, q2⟩ := p
    obtain ⟨p, vs, rfl, h1, h2, h3, h4, h5⟩ := rp
    have h5 : H p = none := h5.elim id fun z => absurd z look_no
    refine hq ⟨imHs Hs g'.Hs, ρ, σ, g'.H⟩ (.ref p) (.own xs) a c ⟨p, vs, rfl, h1, dpa_im s1 xs vs fl h2, ?_, fun o => ?_, .inl h5⟩ q2
    · refine imHs_none r'.same ?_ h1 Mut.lst
      cases q : Hs p with
      | none => rfl
      | some o =>
        have : H p = some o := hr.same p o q
        rw [h5] at this; cases this
    · obtain ⟨o1, y, _⟩ := OwnAt.there hr o
      have y : H p = some o1 := y
      rw [h5] at y; cases y
  | val d =>
    obtain ⟨d', q1, q2, q3⟩ := onSome_ex p
    exact dat d' q1 q2 q3
  | var i =>
    obtain ⟨d', q1, q2, q3⟩ := onSome_ex p
    exact dat d' q1 q2 q3
  | nst p its =>
    obtain ⟨d', q1, _⟩ := onSome_ex p
    cases q1
end
end RR

/-! LayLol: a slot's own list of data and of lists of its own. -/
namespace RR
open PySem PySem.Spec PyProof.Rows L2
/-- its parts -/
inductive ItsL (K : PySem.W.Frag) (Hs H : Hp) : List V → Itl → Prop
  | nil : ItsL K Hs H [] []
  | dat {v : V} {d : D} {vs : List V} {its : Itl} : Dp K Hs v d → ItsL K Hs H vs its → ItsL K Hs H (v :: vs) (Sum.inl d :: its)
  | lst {q : Addr} {us : List V} {xs : List D} {vs : List V} {its : Itl} : H q = some (.lst us) → DpAll K Hs us xs → ItsL K Hs H vs its → ItsL K Hs H (.ref q :: vs) (Sum.inr (q, xs) :: its)
theorem Its.lol {K : PySem.W.Frag} {Hs H : Hp} : ∀ {vs : List V} {its : Itl}, Its K Hs H vs its → ItsL K Hs H vs its
  | _, _, .nil => .nil
  | _, _, .dat h t => .dat h t.lol
  | _, _, .lst h1 h2 _ t => .lst h1 h2 t.lol
theorem ItsL.mono {K : PySem.W.Frag} {Hs Hs' H H' : Hp} (s : Same Hs Hs') : ∀ {vs : List V} {its : Itl}, (∀ q o, q ∈ ads its → H q = some o → H' q = some o) → ItsL K Hs H vs its → ItsL K Hs' H' vs its
  | _, _, _, .nil => .nil
  | _, _, k, .dat h t => .dat (dp_mono s _ _ h) (ItsL.mono s (fun q o m => k q o m) t)
  | _, _, k, .lst h1 h2 t => .lst (k _ _ List.mem_cons_self h1) (dpa_mono s _ _ h2) (ItsL.mono s (fun q o m => k q o (List.mem_cons_of_mem _ m)) t)
theorem ItsL.there {K : PySem.W.Frag} {Hs H : Hp} {q : Addr} : ∀ {vs : List V} {its : Itl}, ItsL K Hs H vs its → q ∈ ads its → ∃ us, H q = some (.lst us)
  | _, _, .nil, m => by simp [ads] at m
  | _, _, .dat _ t, m => t.there m
  | _, _, .lst h1 _ t, m => by
    rcases List.mem_cons.mp m with rfl | m
    · exact ⟨_, h1⟩
    · exact t.there m
theorem ItsL.dpa {K : PySem.W.Frag} {Hs H : Hp} (s : Same Hs H) : ∀ {vs : List V} {its : Itl}, ItsL K Hs H vs its → DpAll K H vs (its.map datI)
  | _, _, .nil => .nil
  | _, _, .dat h t => .cons (dp_mono s _ _ h) (t.dpa s)
  | _, _, .lst h1 h2 t => .cons (.lst (.inl (.inl h1)) (dpa_mono s _ _ h2)) (t.dpa s)
theorem ItsL.get {K : PySem.W.Frag} {Hs H : Hp} {q : Addr} {xs : List D} : ∀ {vs : List V} {its : Itl} {k : Nat}, ItsL K Hs H vs its → its[k]? = some (.inr (q, xs)) → vs[k]? = some (.ref q) ∧ ∃ us, H q = some (.lst us) ∧ DpAll K Hs us xs
  | _, _, k, .nil, e => by simp at e
  | _, _, 0, .dat h t, e => by simp at e
  | _, _, k + 1, .dat h t, e => by
    obtain ⟨a, b⟩ := ItsL.get (k := k) t (by simpa using e)
    exact ⟨by simpa using a, b⟩
  | _, _, 0, .lst h1 h2 t, e => by
    simp at e
    obtain ⟨rfl, rfl⟩ := e
    exact ⟨rfl, _, h1, h2⟩
  | _, _, k + 1, .lst h1 h2 t, e => by
    obtain ⟨a, b⟩ := ItsL.get (k := k) t (by simpa using e)
    exact ⟨by simpa using a, b⟩
theorem ItsL.put {K : PySem.W.Frag} {Hs H : Hp} {q : Addr} {ws : List V} {ys xs : List D} (dp : DpAll K Hs ws ys) : ∀ {vs : List V} {its : Itl} {k : Nat}, ItsL K Hs H vs its → (ads its).Nodup → its[k]? = some (.inr (q, xs)) → ItsL K Hs (upd H q (.lst ws)) vs (its.set k (.inr (q, ys))) ∧ ads (its.set k (.inr (q, ys))) = ads its
  | _, _, k, .nil, _, e => by simp at e
  | _, _, 0, .dat h t, _, e => by simp at e
  | _, _, k + 1, .dat h t, nd, e => by
    obtain ⟨a, b⟩ := ItsL.put (k := k) dp t nd (by simpa using e)
    exact ⟨.dat h a, b⟩
  | _, _, 0, .lst h1 h2 t, nd, e => by
    simp at e
    obtain ⟨rfl, rfl⟩ := e
    have nd := List.nodup_cons.mp nd
    exact ⟨.lst upd_same dp (t.mono (.refl _) fun r o m y => by rw [upd_ne (fun z => nd.1 (by rw [← z]; exact m))]; exact y), rfl⟩
  | _, _, k + 1, .lst (q := r) h1 h2 t, nd, e => by
    have nd := List.nodup_cons.mp nd
    have e : _ := (show _[k]? = some (Sum.inr (q, xs)) by simpa using e)
    have ne : r ≠ q := fun z => nd.1 (ads_mem.mpr ⟨xs, by rw [z]; exact List.mem_of_getElem? e⟩)
    obtain ⟨a, b⟩ := ItsL.put (k := k) dp t nd.2 e
    exact ⟨.lst (by rw [upd_ne ne]; exact h1) h2 a, congrArg (r :: ·) b⟩
/-- the list at p -/
def lol (p : Addr) (its : Itl) : Reg where
  at_ K Hs H v := v = .ref p ∧ (∃ vs, H p = some (.lst vs) ∧ ItsL K Hs H vs its) ∧ (p :: ads its).Nodup
  ads a := a ∈ p :: ads its
  dat := some (.list (its.map datI))
  mono := fun s k ⟨h1, ⟨vs, h2, h3⟩, h4⟩ => ⟨h1, ⟨vs, k _ _ List.mem_cons_self h2, h3.mono s fun q o m => k q o (List.mem_cons_of_mem _ m)⟩, h4⟩
  there := fun ⟨h1, ⟨vs, h2, h3⟩, h4⟩ m => by
    rcases List.mem_cons.mp m with rfl | m
    · exact ⟨_, h2, Mut.lst⟩
    · obtain ⟨us, z⟩ := h3.there m
      exact ⟨_, z, Mut.lst⟩
  look := fun ⟨h1, ⟨vs, h2, h3⟩, h4⟩ s z => by
    cases z
    subst h1
    exact .lst (.inl (.inl h2)) (h3.dpa s)
section
variable {X : Cx} {fx : List Nat} {Wx : WX} {e a : Expr} {es : List Expr} {pos : Pos}
/-- x = [e, ..] -/
def tSetLol (i : Nat) (u : TnD) : TsD := fun DD ρ => u ρ (fun its ρ1 => chk (decide (its.length ≤ 1000000)) <| ∀ p : Addr, DD.nx (ρ1.set i (some (.reg (lol p its))))) DD.ex
theorem pv_setLol (i : Nat) {x : Str} {u : TnD} {pos' lp : Pos} (hN : X.N.Nodup) (hi : X.N[i]? = some x) (hx : Loc X.env.scope x) (he : PvN X fx Wx es u) (hs : swapsWith (.List es lp) (some (.Name x pos')) pos.line X.env = pure false := by rfl) (hf : X.fn x = true ∨ X.env.scope.names.lookup x = some .local := by first | exact .inl rfl | exact .inr rfl | assumption)
    (hfx : i ∉ fx := by decide) : PvS X fx Wx (.Assign [.Name x pos'] (.List es lp) pos) (tSetLol i u) := by
  refine PS.imp (ps_set hN hi hx (pe_lst he) hs hf) fun D σ H h => ?_
  obtain ⟨Hs, ρ, DD, hr, ht, hq⟩ := h
  refine ⟨Hs, ρ, _, _, hr, ht, fun g1 vs its h1 e1 i1 nd no fr p1 => ?_, hq.ex⟩
  obtain ⟨q2, q3⟩ := chk_and p1
  have q2 := of_decide_eq_true q2
  refine ⟨by rw [i1.len]; exact mill q2, fun p np => ?_⟩
  have n2 : g1.Hs p = none := by
    cases q : g1.Hs p with
    | none => rfl
    | some o =>
      rw [h1.same p o q] at np
      cases np
  have nop : ¬ OwnAt g1.ρ g1.σ p := fun z => by
    obtain ⟨us, w, _⟩ := z.there h1
    rw [np] at w
    cases w
  have r2 := rel_upd (X := X) (o := .lst vs) h1 n2 nop (fun fv z => nomatch z.symm.trans np) (fun us z => nomatch z.symm.trans np)
  have sm : Same g1.H (upd g1.H p (.lst vs)) := same_upd np
  have go : GoE fx g1 ⟨g1.Hs, g1.ρ, g1.σ, upd g1.H p (.lst vs)⟩ := ⟨⟨.refl _, fun a o x n => (by rw [show (Gst.mk g1.Hs g1.ρ g1.σ (upd g1.H p (.lst vs))).Hs = g1.Hs from rfl, n] at x; cases x), fun a o x _ => sm a o x, fun a o x => ⟨o, sm a o x⟩, fun a x => .inl x, fun _ _ => rfl, rfl⟩, rfl, fun i w x => ⟨w, x⟩⟩
  have np0 : H p = none := by
    cases q : H p with
    | none => rfl
    | some o =>
      obtain ⟨o', z⟩ := e1.ext.dom p o q
      exact nomatch z.symm.trans np
  have npa : p ∉ ads its := fun m => by
    obtain ⟨us, z⟩ := i1.lol.there m
    rw [np] at z; cases z
  have i2 : ItsL X.K g1.Hs (upd g1.H p (.lst vs)) vs its := i1.lol.mono (.refl _) fun q o _ y => sm q o y
  have r3 := rel_set (i := i) (w := .reg (lol p its)) (v := .ref p) r2 (fun _ z => nomatch z) (fun _ z => nomatch z) (fun _ _ z => nomatch z) (fun _ _ _ z => nomatch z) (fun b m o => by
    rcases List.mem_cons.mp (show b ∈ p :: ads its from m) with rfl | m
    · exact nop o
    · exact no b m o) (fun r z => by
    cases z
    refine ⟨⟨rfl, ⟨vs, upd_same, i2⟩, List.nodup_cons.mpr ⟨npa, nd⟩⟩, fun b m => ?_⟩
    rcases List.mem_cons.mp (show b ∈ p :: ads its from m) with rfl | m
    · exact n2
    · obtain ⟨xs, m⟩ := ads_mem.mp m
      obtain ⟨_, _, _, z⟩ := i1.at_ m
      exact z)
  have e3 := ext_set (i := i) (w := .reg (lol p its)) (v := .ref p) (e1.trans go).ext hfx (fun b m => by
    rcases List.mem_cons.mp (show b ∈ p :: ads its from m) with rfl | m
    · exact .inl np0
    · exact fr b m)
  have := hq.nx _ r3 e3 (q3 p)
  have sg : g1.σ = σ := e1.sg
  simp only [sg] at this
  exact this
/-- a part is changed -/
theorem mutL {g : Gst} {i k : Nat} {p q : Addr} {its : Itl} {xs ys : List D} {vs : List V} (h : Rel X.K g) (h1 : g.ρ[i]? = some (some (.reg (lol p its)))) (h2 : its[k]? = some (.inr (q, xs))) (dp : DpAll X.K g.Hs vs ys) :
    Rel X.K ⟨g.Hs, g.ρ.set i (some (.reg (lol p (its.set k (.inr (q, ys)))))), g.σ, upd g.H q (.lst vs)⟩ ∧ GoE fx g ⟨g.Hs, g.ρ.set i (some (.reg (lol p (its.set k (.inr (q, ys)))))), g.σ, upd g.H q (.lst vs)⟩ := by
  obtain ⟨v0, s1, ⟨rfl, ⟨vs0, t0, i0⟩, nd0⟩, hn0⟩ := h.reg i _ h1
  have mq : q ∈ ads its := ads_mem.mpr ⟨xs, List.mem_of_getElem? h2⟩
  have ho : Owns g.ρ g.σ i q xs := .reg h1 (List.mem_cons_of_mem _ mq)
  have own : OwnAt g.ρ g.σ q := ⟨i, xs, ho⟩
  have hn := own.hs h
  obtain ⟨us0, hq0, mu0⟩ := own.there h
  have nd1 := List.nodup_cons.mp nd0
  obtain ⟨j1, j2⟩ := i0.put dp nd1.2 h2
  have np : p ≠ q := fun z => nd1.1 (by rw [z]; exact mq)
  have ows : ∀ (j : Nat) (a : Addr) (zs : List D), Owns (g.ρ.set i (some (.reg (lol p (its.set k (.inr (q, ys))))))) g.σ j a zs → ∃ zs', Owns g.ρ g.σ j a zs' := fun j a zs o => by
    cases o with
    | top z1 z2 =>
      rcases get_set z1 with ⟨rfl, z⟩ | ⟨ne, z⟩
      · cases z
      · exact ⟨zs, .top z z2⟩
    | sub z1 z2 =>
      rcases get_set z1 with ⟨rfl, z⟩ | ⟨ne, z⟩
      · cases z
      · exact ⟨zs, .sub z z2⟩
    | reg z1 z2 =>
      rcases get_set z1 with ⟨rfl, z⟩ | ⟨ne, z⟩
      · cases z
        have z2 : a ∈ p :: ads (its.set k (.inr (q, ys))) := z2
        rw [j2] at z2
        exact ⟨zs, .reg h1 z2⟩
      · exact ⟨zs, .reg z z2⟩
  have ow : ∀ a, OwnAt (g.ρ.set i (some (.reg (lol p (its.set k (.inr (q, ys))))))) g.σ a → OwnAt g.ρ g.σ a := fun a ⟨j, zs, o⟩ => let ⟨zs', o'⟩ := ows j a zs o; ⟨j, zs', o'⟩
  have up : ∀ a o, g.H a = some o → a ≠ q → upd g.H q (.lst vs) a = some o := fun a o x n => by rw [upd_ne n]; exact x
  refine ⟨⟨h.len.trans (List.length_set ..).symm, fun a o ha => ?_, fun j d hd => ?_, fun j zs hz => ?_, fun j k q zs ws a1 a2 => let ⟨_, b1⟩ := ows j q zs a1; let ⟨_, b2⟩ := ows k q ws a2; h.sepO j k q _ _ b1 b2, fun j r jts hx => ?_, fun j a dd fs hx => ?_, fun j r hx => ?_⟩, ⟨⟨.refl _, fun a o x n => (by rw [show (Gst.mk g.Hs (g.ρ.set i (some (.reg (lol p (its.set k (.inr (q, ys))))))) g.σ (upd g.H q (.lst vs))).Hs = g.Hs from rfl, n] at x; cases x), fun a o x n => up a o x fun z => n (by rw [z]; exact own), fun a o x => ?_, fun a x => .inl (ow a x), fun _ _ => rfl, rfl⟩, rfl, Kp.set⟩⟩
  · exact up a o (h.same a o ha) (ne_of_none ha hn)
  · rcases get_set hd with ⟨rfl, z⟩ | ⟨ne, z⟩
    · cases z
    · exact h.val j d z
  · rcases get_set hz with ⟨rfl, z⟩ | ⟨ne, z⟩
    · cases z
    · obtain ⟨r, us, b1, b2, b3, b4⟩ := h.own j zs z
      refine ⟨r, us, b1, up r _ b2 fun w => ne ?_, b3, b4⟩
      exact h.sepO i j q xs zs ho (.top z (by rw [← w]; exact b1))
  · rcases get_set hx with ⟨rfl, z⟩ | ⟨ne, z⟩
    · cases z
    · obtain ⟨q1, q2⟩ := h.nst j r jts z
      refine ⟨q1, q2.mono (.refl _) (fun us k => up _ _ k fun w => ?_) fun r' zs us m y n => ⟨up _ _ y fun w => ne ?_, n⟩⟩
      · rw [w, hq0] at k; exact mu0.1 _ (Option.some.inj k)
      · exact h.sepO i j q xs zs ho (.sub z (by rw [← w]; exact m))
  · rcases get_set hx with ⟨rfl, z⟩ | ⟨ne, z⟩
    · cases z
    · obtain ⟨q1, q2⟩ := h.exc j a dd fs z
      refine ⟨q1, q2.mono (.refl _) fun fv k => up _ _ k fun w => ?_⟩
      rw [w, hq0] at k; exact mu0.2.1 _ (Option.some.inj k)
  · rcases get_set hx with ⟨rfl, z⟩ | ⟨ne, z⟩
    · cases z
      refine ⟨.ref p, s1, ⟨rfl, ⟨vs0, up _ _ t0 np, j1⟩, by rw [j2]; exact nd0⟩, fun b m => hn0 b ?_⟩
      have m : b ∈ p :: ads (its.set k (.inr (q, ys))) := m
      rw [j2] at m
      exact m
    · obtain ⟨v', q1, q2⟩ := h.reg j r z
      exact ⟨v', q1, q2.mono (.refl _) fun a o m y n => ⟨up _ _ y fun w => ne (h.sepO i j q xs [] ho (.reg z (by rw [← w]; exact m))), n⟩⟩
  · by_cases hp : a = q
    · exact ⟨_, by rw [hp]; exact upd_same⟩
    · exact ⟨o, up a o x hp⟩
/-- x[k][c] = v -/
def tItemL (i k : Nat) (c : Int) (te : TeD) : TsD := fun DD ρ => te ρ (fun r ρ1 => onSome (fz ρ1 r) fun z => ∃ p its q xs j, z.2[i]? = some (some (.reg (lol p its))) ∧ its[k]? = some (.inr (q, xs)) ∧ ixN xs.length c = some j ∧ DD.nx (z.2.set i (some (.reg (lol p (its.set k (.inr (q, xs.set j z.1)))))))) DD.ex
theorem pv_itemL (i k : Nat) (c : Int) {x : Str} {te : TeD} {px p2 p3 ps tpos : Pos} {jj jj3} (he : Pv X fx Wx e te) (hN : X.N[i]? = some x := by rfl) (hv : Vis X.env.scope x := by first | exact Or.inl rfl | exact Or.inr (Or.inl rfl) | exact Or.inr (Or.inr rfl)) (hd : (x == ("__debug__" : Str)) = false := by decide) (hcd : (x == ("__classdict__" : Str)) = false := by decide)
    (hp : PlainIx (.Constant (.int (k : Int)) jj p2) := by exact fun _ _ => rfl)
    (hs : swapsWithSole [.Subscript (.Subscript (.Name x px) (.Constant (.int (k : Int)) jj p2) ps) (.Constant (.int c) jj3 p3) tpos] e pos.line X.env = pure false := by rfl) (hw : swappedStores [.Subscript (.Subscript (.Name x px) (.Constant (.int (k : Int)) jj p2) ps) (.Constant (.int c) jj3 p3) tpos] e X.env = pure none := by rfl) (h1 : (assignEach [.Subscript (.Subscript (.Name x px) (.Constant (.int (k : Int)) jj p2) ps) (.Constant (.int c) jj3 p3) tpos] X.env).map (·.2) = [assign (.Subscript (.Subscript (.Name x px) (.Constant (.int (k : Int)) jj p2) ps) (.Constant (.int c) jj3 p3) tpos) X.env] := by rfl)
    (ha : ∀ v, assign (.Subscript (.Subscript (.Name x px) (.Constant (.int (k : Int)) jj p2) ps) (.Constant (.int c) jj3 p3) tpos) X.env v = (do
      let ov ← holding [v] (eval (.Subscript (.Name x px) (.Constant (.int (k : Int)) jj p2) ps) X.env)
      let iv ← holding [v, ov] (eval (.Constant (.int c) jj3 p3) X.env)
      standAt tpos
      holding [v, ov, iv] (setItem ov iv v)
      release [v, ov, iv] []) := by intro _; rfl) :
    PvS X fx Wx (.Assign [.Subscript (.Subscript (.Name x px) (.Constant (.int (k : Int)) jj p2) ps) (.Constant (.int c) jj3 p3) tpos] e pos) (tItemL i k c te) := by
  refine PS.imp (ps_asg he (pg_sub (pe_ix ix_seq (pe_var (i := i) hN hv hd hcd) pe_int hp) pe_int set_list ha) hs hw h1) fun D σ H h => ?_
  obtain ⟨Hs, ρ, DD, hr, ht, hq⟩ := h
  refine ⟨Hs, ρ, _, _, hr, ht, fun g1 v r h1 e1 rp p1 => ?_, hq.ex⟩
  obtain ⟨⟨d, ρ2⟩, q1, p, its, q, xs, j, a1, a2, a3, p2⟩ := onSome_ex p1
  obtain ⟨Hs2, h2, e2, dp, kp, _⟩ := freeze e1.ext h1 rp q1
  obtain ⟨Hs1, ρ1, σ1, H1⟩ := g1
  obtain rfl : σ1 = σ := e1.sg
  obtain ⟨v0, s1, ⟨rfl, ⟨vs0, t0, i0⟩, nd0⟩, hn0⟩ := h2.reg i _ a1
  have s1 : σ1[i]? = some (some (V.ref p)) := s1
  obtain ⟨y1, us, z1, z2⟩ := i0.get a2
  refine ⟨.ref p, s1, .inl ⟨p, vs0, (k : Int), .ref q, rfl, rfl, .inl (.inl t0), atI_natN y1, ?_⟩⟩
  refine ⟨q, us, c, j, rfl, rfl, z1, by rw [dpa_len z2]; exact a3, ?_⟩
  obtain ⟨m1, m2⟩ := mutL (fx := fx) h2 a1 a2 (dpa_set j z2 dp)
  exact hq.nx _ m1 (e2.trans m2.ext) p2
end
end RR

/-! LayDic: a slot's own dict of whole numbers at whole numbers. -/
namespace RR
open PySem PySem.Spec PyProof.Rows L2
section
variable {X : Cx} {fx : List Nat} {Wx : WX} {e a b c : Expr} {es : List Expr} {pos : Pos}
/-- a slot's own part of the heap is changed at q -/
theorem mutR {g : Gst} {i : Nat} {q : Addr} {o : HO} {r r' : Reg} {v0 : V} (h : Rel X.K g) (h1 : g.ρ[i]? = some (some (.reg r))) (hs : g.σ[i]? = some (some v0)) (hq : r.ads q) (hr' : RegAt X.K g.Hs (upd g.H q o) v0 r') (ha : ∀ a, r'.ads a → r.ads a) :
    Rel X.K ⟨g.Hs, g.ρ.set i (some (.reg r')), g.σ, upd g.H q o⟩ ∧ GoE fx g ⟨g.Hs, g.ρ.set i (some (.reg r')), g.σ, upd g.H q o⟩ := by
  have ho : Owns g.ρ g.σ i q [] := .reg h1 hq
  have own : OwnAt g.ρ g.σ q := ⟨i, [], ho⟩
  have hn := own.hs h
  obtain ⟨us0, hq0, mu0⟩ := own.there h
  have ows : ∀ (j : Nat) (a : Addr) (zs : List D), Owns (g.ρ.set i (some (.reg r'))) g.σ j a zs → Owns g.ρ g.σ j a zs := fun j a zs o => by
    cases o with
    | top z1 z2 =>
      rcases get_set z1 with ⟨rfl, z⟩ | ⟨ne, z⟩
      · cases z
      · exact .top z z2
    | sub z1 z2 =>
      rcases get_set z1 with ⟨rfl, z⟩ | ⟨ne, z⟩
      · cases z
      · exact .sub z z2
    | reg z1 z2 =>
      rcases get_set z1 with ⟨rfl, z⟩ | ⟨ne, z⟩
      · cases z
        exact .reg h1 (ha _ z2)
      · exact .reg z z2
  have ow : ∀ a, OwnAt (g.ρ.set i (some (.reg r'))) g.σ a → OwnAt g.ρ g.σ a := fun a ⟨j, zs, o⟩ => ⟨j, zs, ows j a zs o⟩
  have up : ∀ a x, g.H a = some x → a ≠ q → upd g.H q o a = some x := fun a x y n => by rw [upd_ne n]; exact y
  refine ⟨⟨h.len.trans (List.length_set ..).symm, fun a o ha => ?_, fun j d hd => ?_, fun j zs hz => ?_, fun j k q zs ws a1 a2 => h.sepO j k q _ _ (ows j q zs a1) (ows k q ws a2), fun j r jts hx => ?_, fun j a dd fs hx => ?_, fun j r hx => ?_⟩, ⟨⟨.refl _, fun a x y n => (by rw [show (Gst.mk g.Hs (g.ρ.set i (some (.reg r'))) g.σ (upd g.H q o)).Hs = g.Hs from rfl, n] at y; cases y), fun a x y n => up a x y fun z => n (by rw [z]; exact own), fun a x y => ?_, fun a x => .inl (ow a x), fun _ _ => rfl, rfl⟩, rfl, Kp.set⟩⟩
  · exact up a o (h.same a o ha) (ne_of_none ha hn)
  · rcases get_set hd with ⟨rfl, z⟩ | ⟨ne, z⟩
    · cases z
    · exact h.val j d z
  · rcases get_set hz with ⟨rfl, z⟩ | ⟨ne, z⟩
    · cases z
    · obtain ⟨r, us, b1, b2, b3, b4⟩ := h.own j zs z
      refine ⟨r, us, b1, up r _ b2 fun w => ne ?_, b3, b4⟩
      exact h.sepO i j q [] zs ho (.top z (by rw [← w]; exact b1))
  · rcases get_set hx with ⟨rfl, z⟩ | ⟨ne, z⟩
    · cases z
    · obtain ⟨q1, q2⟩ := h.nst j r jts z
      refine ⟨q1, q2.mono (.refl _) (fun us k => up _ _ k fun w => ?_) fun r' zs us m y n => ⟨up _ _ y fun w => ne ?_, n⟩⟩
      · rw [w, hq0] at k; exact mu0.1 _ (Option.some.inj k)
      · exact h.sepO i j q [] zs ho (.sub z (by rw [← w]; exact m))
  · rcases get_set hx with ⟨rfl, z⟩ | ⟨ne, z⟩
    · cases z
    · obtain ⟨q1, q2⟩ := h.exc j a dd fs z
      refine ⟨q1, q2.mono (.refl _) fun fv k => up _ _ k fun w => ?_⟩
      rw [w, hq0] at k; exact mu0.2.1 _ (Option.some.inj k)
  · rcases get_set hx with ⟨rfl, z⟩ | ⟨ne, z⟩
    · cases z
      exact ⟨v0, hs, hr'⟩
    · obtain ⟨v', q1, q2⟩ := h.reg j r z
      exact ⟨v', q1, q2.mono (.refl _) fun a o m y n => ⟨up _ _ y fun w => ne (h.sepO i j q [] [] ho (.reg z (by rw [← w]; exact m))), n⟩⟩
  · by_cases hp : a = q
    · exact ⟨_, by rw [hp]; exact upd_same⟩
    · exact ⟨x, up a x y hp⟩
/-- a slot is given a new part of the heap -/
theorem setR {g0 g : Gst} {i : Nat} {p : Addr} {o : HO} {r : Reg} (h : Rel X.K g) (e : Ext fx g0 g) (np : g.H p = none) (hfx : i ∉ fx) (mx : Mut o) (ha : ∀ a, r.ads a → a = p) (hr : r.at_ X.K g.Hs (upd g.H p o) (.ref p)) :
    Rel X.K ⟨g.Hs, g.ρ.set i (some (.reg r)), g.σ.set i (some (.ref p)), upd g.H p o⟩ ∧ Ext fx g0 ⟨g.Hs, g.ρ.set i (some (.reg r)), g.σ.set i (some (.ref p)), upd g.H p o⟩ := by
  have n2 : g.Hs p = none := by
    cases q : g.Hs p with
    | none => rfl
    | some o =>
      rw [h.same p o q] at np
      cases np
  have nop : ¬ OwnAt g.ρ g.σ p := fun z => by
    obtain ⟨us, w, _⟩ := z.there h
    rw [np] at w
    cases w
  have r2 := rel_upd (X := X) (o := o) h n2 nop (fun fv z => nomatch z.symm.trans np) (fun us z => nomatch z.symm.trans np)
  have sm : Same g.H (upd g.H p o) := same_upd np
  have go : Ext fx g ⟨g.Hs, g.ρ, g.σ, upd g.H p o⟩ := ⟨.refl _, fun a x y n => (by rw [show (Gst.mk g.Hs g.ρ g.σ (upd g.H p o)).Hs = g.Hs from rfl, n] at y; cases y), fun a x y _ => sm a x y, fun a x y => ⟨x, sm a x y⟩, fun a y => .inl y, fun _ _ => rfl, rfl⟩
  have np0 : g0.H p = none := by
    cases q : g0.H p with
    | none => rfl
    | some o =>
      obtain ⟨o', z⟩ := e.dom p o q
      exact nomatch z.symm.trans np
  refine ⟨rel_set (i := i) (w := .reg r) (v := .ref p) r2 (fun _ z => nomatch z) (fun _ z => nomatch z) (fun _ _ z => nomatch z) (fun _ _ _ z => nomatch z) (fun b m o => nop (by rw [← ha b m]; exact o)) (fun r' z => by
    cases z
    exact ⟨hr, fun b m => by rw [ha b m]; exact n2⟩), ext_set (i := i) (w := .reg r) (v := .ref p) (e.trans go) hfx (fun b m => .inl (by rw [ha b m]; exact np0))⟩
end
theorem u1 {n : Nat} (h : n + 64 < cLine) : n + 1 < cLine := by omega
/-! ### dicts of whole numbers -/
def vI (kvs : List (Int × Int)) : List (Key × V) := kvs.map fun kv => (.inl kv.1, .int kv.2)
def getI : List (Int × Int) → Int → Option Int
  | [], _ => none
  | kv :: r, k => if kv.1 = k then some kv.2 else getI r k
def putI (kvs : List (Int × Int)) (k v : Int) : List (Int × Int) :=
  match getI kvs k with
  | some _ => kvs.map fun kv => if kv.1 = k then (kv.1, v) else kv
  | none => kvs ++ [(k, v)]
theorem inl_ne {a b : Int} (h : ¬ a = b) : ¬ (Sum.inl a : Key) = .inl b := fun z => h (by injection z)
theorem vI_get : ∀ {kvs : List (Int × Int)} {k : Int}, valV (vI kvs) (.inl k) = (getI kvs k).map V.int
  | [], _ => rfl
  | kv :: r, k => by
    show valV ((Sum.inl kv.1, V.int kv.2) :: vI r) _ = Option.map V.int (if kv.1 = k then some kv.2 else getI r k)
    by_cases e : kv.1 = k
    · rw [if_pos e, valV_pos (show (Sum.inl kv.1, V.int kv.2).1 = (Sum.inl k : Key) by rw [e])]
      rfl
    · rw [if_neg e, valV_neg (show ¬ (Sum.inl kv.1, V.int kv.2).1 = (Sum.inl k : Key) from inl_ne e), vI_get]
theorem vI_put {kvs : List (Int × Int)} {k v : Int} : putK (vI kvs) (.inl k) (.int v) = vI (putI kvs k v) := by
  unfold putK putI
  rw [valV_any, vI_get]
  cases q : getI kvs k with
  | some x =>
    rw [show (Option.map V.int (some x)).isSome = true from rfl, if_pos rfl]
    show List.map _ (List.map _ kvs) = List.map _ (List.map _ kvs)
    rw [List.map_map, List.map_map]
    refine List.map_congr_left fun kv _ => ?_
    show (if (Sum.inl kv.1 : Key) = .inl k then ((Sum.inl kv.1 : Key), V.int v) else (.inl kv.1, .int kv.2)) = _
    by_cases e : kv.1 = k
    · show _ = ((Sum.inl (if kv.1 = k then (kv.1, v) else kv).1 : Key), V.int (if kv.1 = k then (kv.1, v) else kv).2)
      rw [if_pos e, if_pos (by rw [e])]
    · show _ = ((Sum.inl (if kv.1 = k then (kv.1, v) else kv).1 : Key), V.int (if kv.1 = k then (kv.1, v) else kv).2)
      rw [if_neg e, if_neg (inl_ne e)]
  | none =>
    rw [show (Option.map V.int (none : Option Int)).isSome = false from rfl, if_neg (by decide)]
    show _ = List.map _ (kvs ++ [(k, v)])
    rw [List.map_append]
    rfl
/-- the dict at p -/
def dicI (p : Addr) (kvs : List (Int × Int)) : Reg where
  at_ K Hs H v := v = .ref p ∧ H p = some (.dK (vI kvs))
  ads a := a = p
  dat := none
  mono := fun s k ⟨h1, h2⟩ => ⟨h1, k _ _ rfl h2⟩
  there {K Hs H v a} h m := by
    have m : a = p := m
    subst m
    exact ⟨_, h.2, (fun _ z => nomatch z), (fun _ z => nomatch z), fun _ _ z => nomatch z⟩
  look := fun _ _ z => nomatch z
section
variable {X : Cx} {fx : List Nat} {Wx : WX} {e a b c : Expr} {es : List Expr} {pos : Pos}
def isDic (ρ : Rho) (i : Nat) : Prop := ∃ p kvs, ρ[i]? = some (some (.reg (dicI p kvs)))
def onDic (ρ : Rho) (i : Nat) (k : Addr → List (Int × Int) → Prop) : Prop := ∃ p kvs, ρ[i]? = some (some (.reg (dicI p kvs))) ∧ k p kvs
theorem dic_at {g : Gst} (h : Rel X.K g) {i : Nat} {p : Addr} {kvs : List (Int × Int)} (h1 : g.ρ[i]? = some (some (.reg (dicI p kvs)))) : g.σ[i]? = some (some (.ref p)) ∧ g.H p = some (.dK (vI kvs)) := by
  obtain ⟨v, s, ⟨rfl, k⟩, _⟩ := h.reg i _ h1
  exact ⟨s, k⟩
/-- x = {} -/
def tNewDic (i : Nat) : TsD := fun DD ρ => ∀ p : Addr, DD.nx (ρ.set i (some (.reg (dicI p []))))
theorem pv_newDic (i : Nat) {x : Str} {pos' lp : Pos} (hN : X.N.Nodup) (hi : X.N[i]? = some x) (hx : Loc X.env.scope x) (hs : swapsWith (.Dict [] [] lp) (some (.Name x pos')) pos.line X.env = pure false := by rfl) (hf : X.fn x = true ∨ X.env.scope.names.lookup x = some .local := by first | exact .inl rfl | exact .inr rfl | assumption)
    (hfx : i ∉ fx := by decide) : PvS X fx Wx (.Assign [.Name x pos'] (.Dict [] [] lp) pos) (tNewDic i) := by
  refine PS.imp (ps_set hN hi hx pe_dnewK hs hf) fun D σ H h => ?_
  obtain ⟨Hs, ρ, DD, hr, ht, hq⟩ := h
  intro p np
  obtain ⟨a1, a2⟩ := setR (X := X) (fx := fx) (g0 := ⟨Hs, ρ, σ, H⟩) (g := ⟨Hs, ρ, σ, H⟩) (i := i) (p := p) (o := .dK []) (r := dicI p []) hr .refl np hfx ⟨(fun _ z => nomatch z), (fun _ z => nomatch z), fun _ _ z => nomatch z⟩ (fun a m => m) ⟨rfl, upd_same⟩
  exact hq.nx _ a1 a2 (ht p)
/-- x[k] = v -/
def tPutDic (i : Nat) (tk te : TeD) : TsD := fun DD ρ => te ρ (fun r ρ1 => onSome (asI (rd ρ1 r)) fun v => isDic ρ1 i ∧ tk ρ1 (fun rk ρ2 => onSome (asI (rd ρ2 rk)) fun k => onDic ρ2 i fun p kvs => kvs.length ≤ 1000000 ∧ DD.nx (ρ2.set i (some (.reg (dicI p (putI kvs k v)))))) DD.ex) DD.ex
theorem pv_putDic (i : Nat) {x : Str} {tk te : TeD} {px tpos : Pos} (hu : X.A.units + 64 < cLine) (he : Pv X fx Wx e te) (hk : Pv X fx Wx a tk) (hN : X.N[i]? = some x := by rfl) (hv : Vis X.env.scope x := by first | exact Or.inl rfl | exact Or.inr (Or.inl rfl) | exact Or.inr (Or.inr rfl)) (hd : (x == ("__debug__" : Str)) = false := by decide) (hcd : (x == ("__classdict__" : Str)) = false := by decide)
    (hs : swapsWith e (some (.Subscript (.Name x px) a tpos)) pos.line X.env = pure false := by rfl) : PvS X fx Wx (.Assign [.Subscript (.Name x px) a tpos] e pos) (tPutDic i tk te) := by
  refine PS.imp (ps_dput (u1 hu) (pe_var (i := i) hN hv hd hcd) hk he hs) fun D σ H h => ?_
  obtain ⟨Hs, ρ, DD, hr, ht, hq⟩ := h
  refine ⟨Hs, ρ, _, _, hr, ht, fun g1 w r h1 e1 rp1 p1 => ?_, hq.ex⟩
  obtain ⟨v, q1, ⟨p, kvs, z1⟩, p1⟩ := onSome_ex p1
  have hw := (rp1.lk h1 (asI_of q1)).int
  subst hw
  obtain ⟨Hs1, ρ1, σ1, H1⟩ := g1
  obtain rfl : σ1 = σ := e1.sg
  obtain ⟨s1, k1⟩ := dic_at h1 z1
  refine ⟨.ref p, s1, Hs1, ρ1, _, _, h1, p1, fun g2 y rk h2 e2 rp2 p2 => ?_, hq.ex.go e1.ext⟩
  obtain ⟨k, q2, p', kvs', z2, l2, p2⟩ := onSome_ex p2
  have hy := (rp2.lk h2 (asI_of q2)).int
  subst hy
  obtain ⟨s2, k2⟩ := dic_at h2 z2
  have s2' := s2
  rw [e2.sg] at s2'
  have s2' : σ1[i]? = some (some (V.ref p')) := s2'
  have s1 : σ1[i]? = some (some (V.ref p)) := s1
  rw [s1] at s2'
  cases s2'
  refine ⟨p, _, rfl, DPut.k (k := .inl k) k2 (by unfold vI; rw [List.length_map]; rw [sizeLine_eq]; omega), ?_⟩
  rw [vI_put]
  obtain ⟨m1, m2⟩ := mutR (X := X) (fx := fx) (o := .dK (vI (putI kvs' k v))) (r' := dicI p (putI kvs' k v)) h2 z2 s2 rfl ⟨⟨rfl, upd_same⟩, fun b m => OwnAt.hs h2 ⟨i, [], .reg z2 m⟩⟩ (fun b m => m)
  have := hq.nx _ m1 ((e1.trans e2).trans m2).ext p2
  have sg : g2.σ = σ1 := e2.sg
  simp only [sg] at this
  exact this
/-- x[k] -/
def tGetDic (i : Nat) (tk : TeD) : TeD := fun ρ P PX => isDic ρ i ∧ tk ρ (fun rk ρ2 => onSome (asI (rd ρ2 rk)) fun k => onDic ρ2 i fun p kvs => onSome (getI kvs k) fun v => P (.val (.int v)) ρ2) PX
theorem pv_getDic (i : Nat) {x : Str} {tk : TeD} {px : Pos} (hu : X.A.units + 64 < cLine) (hk : Pv X fx Wx a tk) (hN : X.N[i]? = some x := by rfl) (hv : Vis X.env.scope x := by first | exact Or.inl rfl | exact Or.inr (Or.inl rfl) | exact Or.inr (Or.inr rfl)) (hd : (x == ("__debug__" : Str)) = false := by decide) (hcd : (x == ("__classdict__" : Str)) = false := by decide)
    (hs : NoSl a := by exact fun _ _ => rfl) : Pv X fx Wx (.Subscript (.Name x px) a pos) (tGetDic i tk) := by
  refine PE.imp (pe_dget (u1 hu) (pe_var (i := i) hN hv hd hcd) hk hs) fun σ H Q h => ?_
  obtain ⟨Hs, ρ, P, PX, hr, ⟨⟨p, kvs, z1⟩, ht⟩, hq, hx⟩ := h
  obtain ⟨s1, k1⟩ := dic_at hr z1
  have s1 : σ[i]? = some (some (V.ref p)) := s1
  refine ⟨.ref p, s1, Hs, ρ, _, _, hr, ht, fun g2 y rk h2 e2 rp2 p2 => ?_, hx⟩
  obtain ⟨k, q2, p', kvs', z2, p2⟩ := onSome_ex p2
  obtain ⟨v, q3, p2⟩ := onSome_ex p2
  have hy := (rp2.lk h2 (asI_of q2)).int
  subst hy
  obtain ⟨s2, k2⟩ := dic_at h2 z2
  rw [e2.sg] at s2
  have s2 : σ[i]? = some (some (V.ref p')) := s2
  rw [s1] at s2
  cases s2
  have g := DGet.k (k := .inl k) k2
  rw [vI_get, q3] at g
  exact ⟨p, .int v, rfl, g, hq g2 _ (.val (.int v)) h2 e2 (.int v) p2⟩
/-- x.get(k, c) -/
def tGetOr (i : Nat) (tk : TeD) (c : Int) : TeD := fun ρ P PX => isDic ρ i ∧ tk ρ (fun rk ρ2 => onSome (asI (rd ρ2 rk)) fun k => onDic ρ2 i fun p kvs => P (.val (.int ((getI kvs k).getD c))) ρ2) PX
theorem pv_getOr (i : Nat) (c : Int) {x : Str} {tk : TeD} {px apos cp : Pos} {jj} (hu : X.A.units + 64 < cLine) (hk : Pv X fx Wx a tk) (hN : X.N[i]? = some x := by rfl) (hv : Vis X.env.scope x := by first | exact Or.inl rfl | exact Or.inr (Or.inl rfl) | exact Or.inr (Or.inr rfl)) (hd : (x == ("__debug__" : Str)) = false := by decide) (hcd : (x == ("__classdict__" : Str)) = false := by decide)
    (m : M2 X (.Name x px) "get" apos a (.Constant (.int c) jj cp) pos := by exact ⟨rfl, rfl, rfl, rfl⟩) : Pv X fx Wx (.Call (.Attribute (.Name x px) "get" apos) [a, .Constant (.int c) jj cp] [] pos) (tGetOr i tk c) := by
  refine PE.imp (pe_dget2 (u1 hu) (pe_var (i := i) hN hv hd hcd) hk pe_int m) fun σ H Q h => ?_
  obtain ⟨Hs, ρ, P, PX, hr, ⟨⟨p, kvs, z1⟩, ht⟩, hq, hx⟩ := h
  obtain ⟨s1, k1⟩ := dic_at hr z1
  have s1 : σ[i]? = some (some (V.ref p)) := s1
  refine ⟨.ref p, s1, p, rfl, .inl ⟨_, .inl k1⟩, Hs, ρ, _, _, hr, ht, fun g2 y rk h2 e2 rp2 p2 => ?_, hx⟩
  obtain ⟨k, q2, p', kvs', z2, p2⟩ := onSome_ex p2
  have hy := (rp2.lk h2 (asI_of q2)).int
  subst hy
  obtain ⟨s2, k2⟩ := dic_at h2 z2
  rw [e2.sg] at s2
  have s2 : σ[i]? = some (some (V.ref p')) := s2
  rw [s1] at s2
  cases s2
  have g := DGet.k (k := .inl k) k2
  rw [vI_get] at g
  refine ⟨_, g, ?_⟩
  have fin := hq g2 _ (.val (.int ((getI kvs' k).getD c))) h2 e2 (.int _) p2
  cases q : getI kvs' k with
  | none => rw [q] at fin; exact fin
  | some v => rw [q] at fin; exact fin
/-- len(x) -/
def tLenDic (i : Nat) : TeD := fun ρ P _ => onDic ρ i fun _ kvs => P (.val (.int kvs.length)) ρ
theorem pv_lenDic (i : Nat) {x : Str} {px p : Pos} (hg : Gl X "len") (hm : X.mg "len" = none) (hN : X.N[i]? = some x := by rfl) (hv : Vis X.env.scope x := by first | exact Or.inl rfl | exact Or.inr (Or.inl rfl) | exact Or.inr (Or.inr rfl)) (hd : (x == ("__debug__" : Str)) = false := by decide) (hcd : (x == ("__classdict__" : Str)) = false := by decide)
    (hs : starEach [.Name x px] X.env = (false, eval (.Name x px) X.env) :: starEach [] X.env := by rfl) (hpl : (backTo pos (starEach ([] : List Expr) X.env)).any (·.1) = false := by rfl) : Pv X fx Wx (.Call (.Name "len" p) [.Name x px] [] pos) (tLenDic i) := by
  refine PE.imp (pe_callB call_lenD hg hm boot_len (pa_cons (pe_var (i := i) hN hv hd hcd) pa_nil hs) (by decide) (by decide) hs hpl) fun σ H Q h => ?_
  obtain ⟨Hs, ρ, P, PX, hr, ⟨p, kvs, z1, p1⟩, hq, hx⟩ := h
  obtain ⟨s1, k1⟩ := dic_at hr z1
  have s1 : σ[i]? = some (some (V.ref p)) := s1
  refine ⟨.ref p, s1, p, vI kvs, rfl, k1, ?_⟩
  have fin := hq ⟨Hs, ρ, σ, H⟩ _ (.val (.int kvs.length)) hr .refl (.int _) p1
  have e : ((vI kvs).length : Int) = kvs.length := by unfold vI; rw [List.length_map]
  rw [← e] at fin
  exact fin
end
end RR

/-! LayTab: a dict display of text keys with truths, in an except suite; its keys gone through by a comprehension. -/
namespace RR
open PySem PySem.Spec PyProof.Rows L2 L2H
section
variable {prog : Program} {w : World} {A : Around} {E : Value → Shared → Prop} {s : Shared}
theorem key_end_hot {it d x1 : Addr} {i n ep : Nat} {od : Obj} {es : Array DictEntry} {Q : Option Value → Shared → Prop} (hot : HotX.HotAt A x1 s.heap) (hit : s.heap.IsKeyIter it d i n ep) (hne : x1 ≠ it) (hod : s.heap.get? d = some od) (hdd : od.data = .dict es ep)
    (hsz : es.size = n) (hge : n ≤ i) (hQ : ∀ h', Heap.ExtBut it s.heap h' → Q none { s with heap := h' }) : wpAny (model prog w) A (pyNext (.ref it)) Q E s := by
  obtain ⟨o, ho, hc, hd⟩ := id hit
  obtain ⟨hh, o1, vs1, h1, d1, c1⟩ := hot
  unfold pyNext
  refine wpAny_bind (wpAny_attempt (wpAny_callSpecial?_slot (name := Str.ofString "__next__") hit.typeIs F.slot_dict_keyiterator_next
    (wpAny_call_entry F.slot_dict_keyiterator_next hit.typeIs F.entry_dict_keyiterator_next ?_ (F.args_dict_keyiterator_next_1 _))))
  refine wpAny_bind (wpAny_pure ?_)
  refine wpAny_bind ?_
  refine wpAny_bind ?_
  first | refine wpAny_bind (wpAny_typeNameOfWhole_keyiter hit.typeIs (wpAny_pure ?_)) | refine wpAny_bind (wpAny_typeNameOf_keyiter hit.typeIs (wpAny_pure ?_))
  refine wpAny_bind (wpAny_fieldsOf ho hd ?_)
  have hown : Builtin.Dict_items.ownsTuple "dict_keyiterator" = false := by decide
  simp only [hown, Bool.false_eq_true, if_false]
  show wpAny _ _ (if (Value.ref d == Value.none) = true then _ else _) _ _ s
  rw [if_neg (show ¬ ((Value.ref d == Value.none) = true) from Bool.false_ne_true)]
  refine wpAny_bind (wpAny_pure ?_)
  refine wpAny_bind (wpAny_dictEntries hod hdd ?_)
  rw [if_neg (by rw [hsz]; simp)]
  refine wpAny_bind (wpAny_pure ?_)
  refine wpAny_bind (wpAny_dictEpoch hod hdd ?_)
  rw [if_neg (by simp)]
  refine wpAny_pure ?_
  have hge' : es.size ≤ i := by rw [hsz]; exact hge
  simp only [show ¬ ((i : Int) < 0) from by omega, if_false, Int.toNat_natCast, Array.getElem?_eq_none hge']
  refine wpAny_bind ?_
  first | refine wpAny_bind (wpAny_typeNameOfWhole_keyiter hit.typeIs (wpAny_pure ?_)) | refine wpAny_bind (wpAny_typeNameOf_keyiter hit.typeIs (wpAny_pure ?_))
  show wpAny _ _ (setField (.ref it) 0 .none >>= _) _ _ s
  refine wpAny_bind (wpAny_setField ho hd (by simp) ?_)
  show wpAny _ _ (newExc (.type "StopIteration") [] >>= _) _ _ _
  refine wpAny_bind ?_
  simp only [newExc, newTuple]
  refine wpAny_bind (wpAny_newObj_type ?_ (by size_fits))
  refine wpAny_bind (m := firstArgMember _ _) (wpAny_of_eq (a := Value.none) (by first | rfl | (simp only [firstArgMember]; rfl)) ?_)
  refine wpAny_newObj_type ?_ (by size_fits)
  have h1' : (s.heap.update it (Obj.mapFields (·.setIfInBounds 0 .none))).get? x1 = some o1 := by
    rw [Heap.get?_update_other _ _ (Ne.symm hne)]
    exact h1
  refine HotX.raiseNew_hot ⟨hh, o1, vs1, Heap.get?_push_of_some _ (Heap.get?_push_of_some _ h1'), d1, c1⟩ (Nat.ne_of_lt (Heap.lt_size (Heap.get?_push_of_some _ h1'))) (Heap.get?_push_size _ rfl) rfl (by first | (simp; done) | (simp; omega) | (simp only [Array.size_append]; simp; omega)) ?_
  refine wpAny_bind (wpAny_isInstance (T := "StopIteration") (b := true) ⟨_, Heap.get?_update_self _ (Heap.get?_push_size _ rfl) rfl, rfl⟩ isSubtype_stop ?_)
  refine wpAny_pure (hQ _ fun b o nb e => ?_)
  have e' : (s.heap.update it (Obj.mapFields (·.setIfInBounds 0 .none))).get? b = some o := by
    rw [Heap.get?_update_other _ _ (Ne.symm nb)]
    exact e
  rw [Heap.get?_update_other _ _ (Nat.ne_of_gt (Heap.lt_size (Heap.get?_push_of_some _ e')))]
  exact Heap.get?_push_of_some _ (Heap.get?_push_of_some _ e')
end
section
variable {P : Program} {w : World} {K : PySem.W.Frag} {tg : Expr} {d : Addr} {o : Obj} {es : Array DictEntry} {ep : Nat}
theorem turn_keysH {kvs : List (Key × V)} (it : Addr) (hod : o.data = .dict es ep) : TurnH P w K tg (Itk d o kvs) [it] it (fun i h => h.IsKeyIter it d i kvs.length ep) where
  mem := by simp
  obj := fun i h st b hb => by
    have e : b = it := by simpa using hb
    subst e
    obtain ⟨oi, e, c, dd⟩ := st
    exact ⟨oi, e, fun v z => by rw [dd] at z; cases z⟩
  keep := fun i h h' st k => st.at fun oi e => k it (by simp) oi e
  item := by
    intro X hP hw hK hc i pins s σ H E I hf st hg
    subst hP hw hK
    obtain ⟨hd, hi⟩ := hg
    obtain ⟨f0, f1, f2, f3, f4, f5⟩ := hf it (by simp)
    obtain ⟨hs, hgd, hx, es', ep', vs, hdt, hsz, kv, hm⟩ := I.frzK hd
    obtain ⟨rfl, rfl⟩ := dict_ep hod hdt
    obtain ⟨⟨k, v⟩, hkv⟩ : ∃ p, kvs[i]? = some p := ⟨kvs[i], List.getElem?_eq_getElem hi⟩
    obtain ⟨u, hu, ru⟩ := kv_get kv hkv
    have hl : kvs.length = vs.length := Paired.length kv
    rw [hl] at st
    refine wpAny_pyNext_dict_item st hm hu fun key h' hkey st' sb => ?_
    have I1 : Inv X pins σ H { s with heap := h' } := I.turned (t' := s.toks) (fun b ob hb e => (sb.2 b hb).trans e) f0 f1 f3 f4 f5
    obtain ⟨oi, e, c, dd⟩ := id st'
    refine ⟨key, rfl, go_of (s := { s with heap := h' }) e c dd (by decide) ⟨kV k, H, I1, relV_key (show keyIs k key = true from hkey), ⟨rfl, k, v, hkv, rfl⟩, ?_, fun b hb => (hf b hb).1⟩⟩
    show h'.IsKeyIter it d (i + 1) kvs.length _
    rw [hl]
    exact st'
  done := by
    intro X hP hw hK hc i pins s σ H E I hf st hg
    subst hP hw hK
    obtain ⟨hd, hi⟩ := hg
    obtain ⟨f0, f1, f2, f3, f4, f5⟩ := hf it (by simp)
    obtain ⟨hs, hgd, hx, es', ep', vs, hdt, hsz, kv, hm⟩ := I.frzK hd
    obtain ⟨rfl, rfl⟩ := dict_ep hod hdt
    obtain ⟨x1, hot⟩ := hc.at I
    obtain ⟨oi, e, c, dd⟩ := id st
    have hne : x1 ≠ it := fun z => by
      obtain ⟨_, o1, vs1, h1, d1, c1⟩ := hot
      rw [z, e] at h1
      cases h1
      rw [dd] at d1
      cases d1
      simp at c1
    exact key_end_hot hot st hne hgd hdt hsz hi fun h' eb => ⟨rfl, I.turned (t' := s.toks) (fun b ob hb e => eb b ob hb e) f0 f1 f3 f4 f5⟩
  self := fun A i s Q E st h => wpAny_pyIter_keyiter st h
end
section
variable {X : Cx} {tg e : Expr} {td : TE}
theorem pi_keysH (he : PE X e td) : PIH X tg e (iKeysM td) := by
  refine ⟨fun pins s σ H R I h => ?_⟩
  refine thn (he.run pins s σ H _ I h) fun u s1 ⟨x, H1, I1, rx, d, o, kvs, ex, hd, q⟩ => ?_
  subst ex
  obtain rfl : u = Value.ref d := rx
  obtain ⟨hs, hgd, hx, es, ep, vs, hdt, hsz, kv, hm⟩ := I1.frzK hd
  refine iter_keys hs hgd hx hdt ⟨s1.heap.objs.size, [s1.heap.objs.size], _, _, H1, rfl, I1.kept (t' := s1.toks) fun b ob e => Heap.get?_push_of_some _ e, turn_keysH _ hdt, ⟨_, Heap.get?_push_size _ rfl, rfl, ?_⟩, fun b hb => ?_, q⟩
  · rw [hsz] <;> rfl
  · have e : b = s1.heap.objs.size := by simpa using hb
    subst e
    exact I1.fpOk (Nat.le_refl _) (I1.hok.fresh (Nat.le_refl _))
end
/-! ### over data -/
def vT (kvs : List (Str × Bool)) : List (Key × V) := kvs.map fun kv => (.inr kv.1, .bl kv.2)
/-- the dict at p: texts with truths -/
def tabR (p : Addr) (kvs : List (Str × Bool)) : Reg where
  at_ K Hs H v := v = .ref p ∧ H p = some (.dK (vT kvs))
  ads a := a = p
  dat := none
  mono := fun s k ⟨h1, h2⟩ => ⟨h1, k _ _ rfl h2⟩
  there {K Hs H v a} h m := by
    have m : a = p := m
    subst m
    exact ⟨_, h.2, (fun _ z => nomatch z), (fun _ z => nomatch z), fun _ _ z => nomatch z⟩
  look := fun _ _ z => nomatch z
def tPairsD : List (Str × TeD) → Rho → (List (Str × Bool) → Rho → Prop) → PostX → Prop
  | [], ρ, P, _ => P [] ρ
  | (k, t) :: r, ρ, P, PX => t ρ (fun v ρ1 => onSome (asB (rd ρ1 v)) fun b => tPairsD r ρ1 (fun kvs ρ2 => P ((k, b) :: kvs) ρ2) PX) PX
/-- x = {text: truth, ..} -/
def tTabD (i : Nat) (l : List (Str × TeD)) : TsD := fun DD ρ => tPairsD l ρ (fun kvs ρ1 => ∀ p : Addr, DD.nx (ρ1.set i (some (.reg (tabR p kvs))))) DD.ex
/-- [n for n in x if x[n]], x a dict as above, n in slot k -/
def keysIf (kvs : List (Str × Bool)) : List D := (kvs.filter (·.2)).map fun kv => .str kv.1
def tKeysIf (j k : Nat) : TeD := fun ρ P _ => ∃ p kvs, ρ[j]? = some (some (.reg (tabR p kvs))) ∧ (kvs.map (·.1)).Nodup ∧ k < ρ.length ∧ kvs.length ≤ 1000 ∧ P (.own (keysIf kvs)) ρ
def txV : PyData → V
  | .str x => .str x
  | _ => .non
theorem valV_none {κ : Type} [DecidableEq κ] : ∀ {kvs : List (κ × V)} {k : κ}, k ∉ kvs.map (·.1) → valV kvs k = none
  | [], _, _ => rfl
  | kv :: r, k, h => by
    rw [List.map_cons, List.mem_cons, not_or] at h
    rw [valV_neg (fun z => h.1 z.symm)]
    exact valV_none h.2
theorem merge_nd : ∀ {l acc : List (Key × V)}, ((acc ++ l).map (·.1)).Nodup → mergeK acc l = acc ++ l
  | [], acc, _ => by simp [mergeK]
  | (k, v) :: l, acc, h => by
    have hk : k ∉ acc.map (·.1) := by
      rw [List.map_append, List.map_cons, List.nodup_append] at h
      exact fun z => h.2.2 k z k List.mem_cons_self rfl
    show mergeK (putK acc k v) l = _
    rw [putK_new v (valV_none hk), merge_nd (by rw [List.append_assoc]; exact h), List.append_assoc]
    rfl
theorem nd_vT {kvs : List (Str × Bool)} (h : (kvs.map (·.1)).Nodup) : ((vT kvs).map (·.1)).Nodup := by
  unfold vT
  rw [List.map_map]
  have e : ((fun kv : Key × V => kv.1) ∘ fun kv : Str × Bool => ((Sum.inr kv.1 : Key), V.bl kv.2)) = (Sum.inr : Str → Key) ∘ fun kv : Str × Bool => kv.1 := rfl
  rw [e, ← List.map_map]
  exact List.Pairwise.map _ (fun a b n z => n (by injection z)) h
section
variable {X : Cx} {fx : List Nat} {Wx : WX} {e a b c : Expr} {es : List Expr} {pos : Pos}
theorem tab_at {g : Gst} (h : Rel X.K g) {i : Nat} {p : Addr} {kvs : List (Str × Bool)} (h1 : g.ρ[i]? = some (some (.reg (tabR p kvs)))) : g.σ[i]? = some (some (.ref p)) ∧ g.H p = some (.dK (vT kvs)) := by
  obtain ⟨v, s, ⟨rfl, k⟩, _⟩ := h.reg i _ h1
  exact ⟨s, k⟩
def tabTr (X : Cx) (fx : List Nat) (Wx : WX) (l : List (Str × TeD)) : List (TE × TE) := l.map fun kt => (tC (.str kt.1), liftE X fx Wx kt.2)
theorem tabs_imp {σ : L2.St} : ∀ {l : List (Str × TeD)} {Hs H : Hp} {ρ : Rho} {P : List (Str × Bool) → Rho → Prop} {PX : PostX} {Q : List (V × V) → Hp → Prop}, Rel X.K ⟨Hs, ρ, σ, H⟩ → tPairsD l ρ P PX →
    (∀ g' kvs, Rel X.K g' → GoE fx ⟨Hs, ρ, σ, H⟩ g' → kvs.map (·.1) = l.map (·.1) → P kvs g'.ρ → Q (kvs.map fun kv => (V.str kv.1, V.bl kv.2)) g'.H) → XOk X fx Wx ⟨Hs, ρ, σ, H⟩ PX → tPairs (tabTr X fx Wx l) σ H Q
  | [], Hs, H, ρ, P, PX, Q, hr, ht, hq, _ => hq ⟨Hs, ρ, σ, H⟩ [] hr .refl rfl ht
  | (k, t) :: l, Hs, H, ρ, P, PX, Q, hr, ht, hq, hx => by
    refine ⟨Hs, ρ, _, PX, hr, ht, fun g1 v r h1 e1 rp1 p1 => ?_, hx⟩
    obtain ⟨b, q1, p1⟩ := onSome_ex p1
    have hv := (rp1.lk h1 (asB_of q1)).bool
    subst hv
    obtain ⟨Hs1, ρ1, σ1, H1⟩ := g1
    obtain rfl : σ1 = σ := e1.sg
    exact tabs_imp (l := l) h1 p1 (fun g' kvs h2 e2 m p2 => hq g' ((k, b) :: kvs) h2 (e1.trans e2) (by rw [List.map_cons, List.map_cons, m]) p2) (hx.go e1.ext)
theorem pv_tab (i : Nat) {x : Str} {pos' lp : Pos} {keys : List (Option Expr)} {values : List Expr} (l : List (Str × TeD)) (hN : X.N.Nodup) (hi : X.N[i]? = some x) (hx : Loc X.env.scope x) (h : PPs X lp keys values (tabTr X fx Wx l)) (hnd : (l.map (·.1)).Nodup) (h15 : l.length ≤ 15) (hall : keys.all (·.isSome) = true := by rfl) (hl : keys.length = values.length := by rfl) (hl2 : keys.length ≤ 15 := by decide) (h0 : keys ≠ [] := by exact fun z => nomatch z)
    (hs : swapsWith (.Dict keys values lp) (some (.Name x pos')) pos.line X.env = pure false := by rfl) (hf : X.fn x = true ∨ X.env.scope.names.lookup x = some .local := by first | exact .inl rfl | exact .inr rfl | assumption)
    (hfx : i ∉ fx := by decide) : PvS X fx Wx (.Assign [.Name x pos'] (.Dict keys values lp) pos) (tTabD i l) := by
  refine PS.imp (ps_set hN hi hx (pe_disp h hall hl h0 hl2) hs hf) fun D σ H h => ?_
  obtain ⟨Hs, ρ, DD, hr, ht, hq⟩ := h
  intro p np
  have n0 : Hs p = none := by
    cases q : Hs p with
    | none => rfl
    | some o =>
      have := hr.same p o q
      rw [show (Gst.mk Hs ρ σ H).H p = H p from rfl, np] at this
      cases this
  have nop : ¬ OwnAt ρ σ p := fun z => by
    obtain ⟨us, w, _⟩ := OwnAt.there (g := ⟨Hs, ρ, σ, H⟩) hr z
    rw [show (Gst.mk Hs ρ σ H).H p = H p from rfl, np] at w
    cases w
  have r0 : Rel X.K ⟨Hs, ρ, σ, upd H p (.dK [])⟩ := rel_upd (X := X) (g := ⟨Hs, ρ, σ, H⟩) (o := .dK []) hr n0 nop (fun fv z => nomatch z.symm.trans np) (fun us z => nomatch z.symm.trans np)
  have e0 : Ext fx ⟨Hs, ρ, σ, H⟩ ⟨Hs, ρ, σ, upd H p (.dK [])⟩ := ⟨.refl _, fun a x y n => (by have n : Hs a = none := n; have y : Hs a = some x := y; rw [n] at y; cases y), fun a x y _ => same_upd np a x y, fun a x y => ⟨x, same_upd np a x y⟩, fun a y => .inl y, fun _ _ => rfl, rfl⟩
  refine tabs_imp (fx := fx) (Wx := Wx) r0 ht (fun g' kvs r' e' m p' => ?_) (fun g' cls d x r' e' => hq.ex g' cls d x r' (e0.trans e'))
  obtain ⟨Hs1, ρ1, σ1, H1⟩ := g'
  obtain rfl : σ1 = σ := e'.sg
  have hp : H1 p = some (.dK []) := e'.ext.frame p _ upd_same nop
  have n1 : Hs1 p = none := e'.ext.hs_none (g := ⟨Hs, ρ, σ1, upd H p (.dK [])⟩) (o := .dK []) upd_same n0 nop ⟨(fun _ z => nomatch z), (fun _ z => nomatch z), fun _ _ z => nomatch z⟩
  have nop1 : ¬ OwnAt ρ1 σ1 p := fun z => by
    rcases e'.ext.own p z with y | y
    · exact nop y
    · have y : upd H p (.dK []) p = none := y
      rw [upd_same] at y
      cases y
  refine ⟨hp, vT kvs, by unfold vT; rw [List.map_map]; rfl, ?_, ?_⟩
  · unfold vT
    have := congrArg List.length m
    rw [List.length_map, List.length_map] at this
    rw [List.length_map]
    omega
  rw [merge_nd (acc := []) (by rw [List.nil_append]; exact nd_vT (by rw [m]; exact hnd)), List.nil_append]
  have r2 : Rel X.K ⟨Hs1, ρ1, σ1, upd H1 p (.dK (vT kvs))⟩ := rel_upd (X := X) (g := ⟨Hs1, ρ1, σ1, H1⟩) (o := .dK (vT kvs)) r' n1 nop1 (fun fv z => nomatch z.symm.trans hp) (fun us z => nomatch z.symm.trans hp)
  have other : ∀ a x, a ≠ p → H1 a = some x → upd H1 p (.dK (vT kvs)) a = some x := fun a x n y => by rw [upd_ne n]; exact y
  have e2 : Ext fx ⟨Hs, ρ, σ1, H⟩ ⟨Hs1, ρ1, σ1, upd H1 p (.dK (vT kvs))⟩ := by
    refine ⟨e'.ext.same, fun a o y n => ?_, fun a o y no => ?_, fun a o y => ?_, fun a y => ?_, fun i hi => e'.ext.fix i hi, e'.ext.len⟩
    · rcases e'.ext.new a o y n with ⟨z, nf⟩ | ⟨z, nf⟩ | ⟨z1, z2⟩
      · refine .inl ⟨?_, nf⟩
        by_cases ha : a = p
        · rw [ha]; exact np
        · have z : upd H p (.dK []) a = none := z
          rw [upd_ne ha] at z
          exact z
      · exact .inr (.inl ⟨z, nf⟩)
      · refine .inr (.inr ⟨z1, ?_⟩)
        have z2 : upd H p (.dK []) a = some o := z2
        by_cases ha : a = p
        · rw [ha, upd_same] at z2
          cases z2
          rcases z1 with ⟨_, z1⟩ | ⟨_, _, z1⟩ <;> cases z1
        · rw [upd_ne ha] at z2
          exact z2
    · have ha : a ≠ p := fun z => by rw [z] at y; exact nomatch np.symm.trans y
      exact other a o ha (e'.ext.frame a o (by show upd H p (.dK []) a = some o; rw [upd_ne ha]; exact y) no)
    · have ha : a ≠ p := fun z => by rw [z] at y; exact nomatch np.symm.trans y
      obtain ⟨o', z⟩ := e'.ext.dom a o (by show upd H p (.dK []) a = some o; rw [upd_ne ha]; exact y)
      exact ⟨o', other a o' ha z⟩
    · rcases e'.ext.own a y with z | z
      · exact .inl z
      · right
        have z : upd H p (.dK []) a = none := z
        by_cases ha : a = p
        · rw [ha]; exact np
        · rw [upd_ne ha] at z
          exact z
  refine hq.nx ⟨Hs1, ρ1.set i (some (.reg (tabR p kvs))), σ1.set i (some (.ref p)), upd H1 p (.dK (vT kvs))⟩ (rel_set (i := i) (w := .reg (tabR p kvs)) (v := .ref p) r2 (fun _ z => nomatch z) (fun _ z => nomatch z) (fun _ _ z => nomatch z) (fun _ _ _ z => nomatch z) (fun b m o => nop1 (by have m : b = p := m; rw [← m]; exact o)) (fun r' z => by
    cases z
    exact ⟨⟨rfl, upd_same⟩, fun b m => by have m : b = p := m; rw [m]; exact n1⟩)) (ext_set (i := i) (w := .reg (tabR p kvs)) (v := .ref p) e2 hfx (fun b m => .inl (by have m : b = p := m; rw [m]; exact np))) (p' p)
theorem vT_at {kvs : List (Str × Bool)} (nd : (kvs.map (·.1)).Nodup) {i : Nat} {k : Str} {b : Bool} (h : kvs[i]? = some (k, b)) : valV (vT kvs) (.inr k) = some (.bl b) := by
  induction kvs generalizing i with
  | nil => simp at h
  | cons kv r ih =>
    rw [List.map_cons, List.nodup_cons] at nd
    show valV ((Sum.inr kv.1, V.bl kv.2) :: vT r) _ = _
    cases i with
    | zero =>
      rw [List.getElem?_cons_zero] at h
      cases h
      exact valV_pos rfl
    | succ i =>
      rw [List.getElem?_cons_succ] at h
      have hm : k ∈ r.map (·.1) := List.mem_map.mpr ⟨_, List.mem_of_getElem? h, rfl⟩
      rw [valV_neg (fun z => nd.1 (by have z : (Sum.inr kv.1 : Key) = .inr k := z; injection z with z; rw [z]; exact hm))]
      exact ih nd.2 h
theorem keysIf_succ {kvs : List (Str × Bool)} {i : Nat} {k : Str} {b : Bool} (h : kvs[i]? = some (k, b)) : keysIf (kvs.take (i + 1)) = keysIf (kvs.take i) ++ (if b = true then [.str k] else []) := by
  unfold keysIf
  rw [List.take_add_one, h, List.filter_append, List.map_append]
  cases b <;> rfl
theorem pv_keysIf (j k : Nat) {n x : Str} {scope : Scope} {p1 p2 p3 p4 p5 p6 : Pos} {ea dd : Addr} {y : Xc} (hx : HX X ea dd y) (hN : X.N.Nodup) (hu : X.A.units + 64 < cLine) (hjk : j ≠ k) (hj : X.N[j]? = some x) (hv : Vis X.env.scope x) (ok : BlkOk X.N X.env.scope scope [(n, k)])
    (hg : ∀ (s : Shared) (H : Hp) (C : Addr) (cl : List (Str × Addr)) (fp : List Addr), PG (blkH X s H scope (compEnvC scope cl C X.env) fp) (.Name n p2) (gName k))
    (ht : ∀ (s : Shared) (H : Hp) (C : Addr) (cl : List (Str × Addr)) (fp : List Addr), PE (blkH X s H scope (compEnvC scope cl C X.env) fp) (.Name x p4) (L2.tVar j))
    (he : ∀ (s : Shared) (H : Hp) (C : Addr) (cl : List (Str × Addr)) (fp : List Addr) (q : Pos), PE (blkH X s H scope (compEnvC scope cl C X.env) fp) (.Name n q) (L2.tVar k))
    (hd : (x == ("__debug__" : Str)) = false := by decide) (hcd : (x == ("__classdict__" : Str)) = false := by decide) (hsl : NoSl (.Name n p5) := by exact fun _ _ => rfl) :
    Pv X fx Wx (.ListComp (.Name n p1) [⟨.Name n p2, .Name x p3, [.Subscript (.Name x p4) (.Name n p5) p6], 0⟩] scope pos) (tKeysIf j k) := by
  refine PE.imp (pe_lock (pe_lcH (own := [(n, k)]) hx.hot hN (pi_keysH (pe_var (i := j) hj hv hd hcd)) ok hg (fun s H C cl fp => pts_one (pt_val (pe_dget (u1 hu) (ht s H C cl fp) (he s H C cl fp _) hsl))) (fun s H C cl fp => he s H C cl fp _))) fun σ H Q h => ?_
  obtain ⟨Hs, ρ, P, PX, hr, ⟨p, kvs, z1, nd, kl, ml, ht'⟩, hq, hx'⟩ := h
  obtain ⟨s1, k1⟩ := tab_at hr z1
  have s1 : σ[j]? = some (some (V.ref p)) := s1
  have k1 : H p = some (.dK (vT kvs)) := k1
  have kl : k < σ.length := by rw [show σ.length = ρ.length from hr.len]; exact kl
  refine ⟨p, .dK (vT kvs), k1, trivial, fun od => ?_⟩
  refine ⟨.ref p, s1, p, od, vT kvs, rfl, upd_same, fun D hD => ?_⟩
  have hDp : D ≠ p := fun z => by rw [z, upd_same] at hD; cases hD
  refine lc_it (n := (vT kvs).length) (w := walk_keys) (fun i H' => H' = upd (upd H p (.frz od (.dK (vT kvs)))) D (.lst ((keysIf (kvs.take i)).map txV))) rfl (fun i H' _ e => by rw [e, upd_ne (Ne.symm hDp)]; exact upd_same) ?_ ?_
  · rintro i x' H' H2 hi rfl ⟨rfl, k', v', hk', rfl⟩
    have hi : i < kvs.length := by unfold vT at hi; rwa [List.length_map] at hi
    have hkv : kvs[i]? = some kvs[i] := List.getElem?_eq_getElem hi
    obtain ⟨⟨kn, kb⟩, ekv⟩ : ∃ z, z = kvs[i] := ⟨_, rfl⟩
    rw [← ekv] at hkv
    have e2 : (vT kvs)[i]? = some (.inr kn, .bl kb) := by unfold vT; rw [List.getElem?_map, hkv]; rfl
    rw [e2] at hk'
    cases hk'
    have w1 : ((wipe σ [k]).set k (some (kV (.inr kn))))[j]? = some (some (V.ref p)) := by
      rw [List.getElem?_set_ne (Ne.symm hjk)]
      show (σ.set k none)[j]? = _
      rw [List.getElem?_set_ne (Ne.symm hjk)]
      exact s1
    have w2 : ((wipe σ [k]).set k (some (kV (.inr kn))))[k]? = some (some (kV (.inr kn))) := List.getElem?_set_self (by rw [wipe_length]; exact kl)
    refine ⟨?_, ⟨_, w1, _, w2, p, .bl kb, rfl, ?_, kb, rfl, ?_⟩⟩
    · show ((((wipe σ []).set k none).set k _).set k none) = (wipe σ []).set k none
      rw [List.set_set, List.set_set]
    · have g := vT_at nd hkv
      exact .inl ⟨vT kvs, .inr kn, .inr ⟨od, by rw [upd_ne (Ne.symm hDp)]; exact upd_same⟩, rfl, g.symm⟩
    · have e3 := keysIf_succ hkv
      cases kb with
      | true =>
        refine ⟨_, w2, _, upd_same, ?_, ?_⟩
        · rw [List.length_map, sizeLine_eq]
          have : (keysIf (kvs.take i)).length ≤ (kvs.take i).length := by unfold keysIf; rw [List.length_map]; exact List.length_filter_le _ _
          rw [List.length_take] at this
          omega
        · rw [upd_upd, e3, List.map_append]
          rfl
      | false =>
        show _ = _
        rw [e3, if_neg (by decide), List.append_nil]
  · rintro H' rfl
    have e4 : kvs.take (vT kvs).length = kvs := by
      unfold vT
      rw [List.length_map, List.take_length]
    rw [e4]
    refine ⟨by rw [upd_ne (Ne.symm hDp)]; exact upd_same, ?_⟩
    obtain ⟨vs, ev⟩ : ∃ vs, vs = (keysIf kvs).map txV := ⟨_, rfl⟩
    rw [← ev]
    have e5 : upd (upd (upd H p (.frz od (.dK (vT kvs)))) D (.lst vs)) p (.dK (vT kvs)) = upd H D (.lst vs) := by
      funext a
      by_cases ha : a = p
      · subst ha
        rw [upd_same, upd_ne (Ne.symm hDp)]
        exact k1.symm
      · rw [upd_ne ha]
        by_cases hb : a = D
        · rw [hb, upd_same, upd_same]
        · rw [upd_ne hb, upd_ne ha, upd_ne hb]
    rw [e5]
    have nD : H D = none := by rwa [upd_ne hDp] at hD
    have dp : ∀ l : List (Str × Bool), DpAll X.K Hs ((keysIf l).map txV) (keysIf l) := fun l => by
      induction l with
      | nil => exact .nil
      | cons kv r ih =>
        obtain ⟨z, w⟩ := kv
        cases w with
        | true => exact .cons (.str z) ih
        | false => exact ih
    have res : Res X.K Hs H (.ref D) (upd H D (.lst vs)) (.own (keysIf kvs)) := ⟨D, vs, rfl, nD, rfl, by rw [ev]; exact dp kvs⟩
    obtain ⟨g', a, b, c, d, e, _⟩ := res.go (fx := fx) (g := ⟨Hs, ρ, σ, H⟩) (g0 := ⟨Hs, ρ, σ, H⟩) .refl hr
    rw [← d]
    exact hq g' _ _ a b c (by rw [e]; exact ht')
end
end RR

/-! LayFn: a def handed to a def, and called there by the local name. -/
namespace RR
open PySem PySem.Spec PyProof.Rows L2 L2H
section
variable {X : Cx} {CX : CXT} {k i : Nat} {f : Addr} {fd : FuncData} {ps : List Str} {sp : Sp} {E : L2.St → XK} {x : Str} {p pos : Pos} {e : Expr} {es : List Expr} {t : TA}
theorem pe_callLS (F : FnOk X.prog X.w X.K X.mg X.base CX k f fd ps sp) (hr : Room k X.A) (hN : X.N[i]? = some x) (hv : Vis X.env.scope x) (hk : PySem.W.keepIn X.K (.ref f) = true) (hb : Binds X.K fd ps []) (hx : ∀ σ, PassesAt CX X σ (E σ)) (ha : PA X (e :: es) t)
    (hdb : (x == ("__debug__" : Str)) = false := by decide) (hcd : (x == ("__classdict__" : Str)) = false := by decide)
    (he : starEach (e :: es) X.env = (false, eval e X.env) :: starEach es X.env := by rfl) (hpl : (backTo pos (starEach es X.env)).any (·.1) = false := by rfl) : PE X (.Call (.Name x p) (e :: es) [] pos) (fun σ H Q => σ[i]? = some (some (.ref f)) ∧ tCallS sp E t σ H Q) := by
  refine ⟨fun pins s σ H Q I h => ?_⟩
  obtain ⟨hs, ht⟩ := h
  refine wpAny_Call_Name_kw (thn ((pe_var (pos := p) hN hv hdb hcd).run pins s σ H (fun v H1 => v = .ref f ∧ H1 = H) I ⟨.ref f, hs, rfl, rfl⟩) fun u s1 ⟨v, H1, I1, r1, q1⟩ => ?_)
  obtain ⟨rfl, rfl⟩ := q1
  cases r1
  refine PySem.W.callWith_K (h₀ := X.base) I.ok.mod.kin hk (thn (ha.run pos pins s1 σ _ _ I1 ht) fun us s2 ⟨vs, H2, I2, r, q⟩ => ⟨I2.kIn, ?_⟩) he hpl
  exact run_fnS F hr hb (hx σ) I2 r q
end
section
variable {X : Cx} {fx : List Nat} {Wx : WX} {e a b c : Expr} {es : List Expr} {pos p : Pos} {f : Addr} {j : Nat}
/-- arguments with the def at f put in at the j-th place -/
def PvAi (X : Cx) (fx : List Nat) (Wx : WX) (j : Nat) (f : Addr) (es : List Expr) (t : TaD) : Prop := PA X es (fun σ H Q => liftA X fx Wx t σ H fun vs H' => Q (vs.take j ++ .ref f :: vs.drop j) H')
theorem pvAi_glob {x : Str} {t : TaD} (hg : Gl X x) (hm : X.mg x = some (.ref f)) (k : PvA X fx Wx es t) (hd : (x == ("__debug__" : Str)) = false := by decide) (hs : starEach (.Name x p :: es) X.env = (false, eval (.Name x p) X.env) :: starEach es X.env := by rfl) : PvAi X fx Wx 0 f (.Name x p :: es) t :=
  PA.imp (pa_cons (pe_glob (v := .ref f) hg hm rfl hd) k hs) fun σ H Q h => h
/-- a slot that holds the def -/
def tSlotA (i : Nat) (f : Addr) (u : TaD) : TaD := fun ρ P PX => ρ[i]? = some (some (.exc f f [])) ∧ u ρ P PX
theorem pvAi_var (i : Nat) {x : Str} {t : TaD} (hN : X.N[i]? = some x) (hv : Vis X.env.scope x) (k : PvA X fx Wx es t) (hd : (x == ("__debug__" : Str)) = false := by decide) (hcd : (x == ("__classdict__" : Str)) = false := by decide) (hs : starEach (.Name x p :: es) X.env = (false, eval (.Name x p) X.env) :: starEach es X.env := by rfl) : PvAi X fx Wx 0 f (.Name x p :: es) (tSlotA i f t) := by
  refine PA.imp (pa_cons (pe_var (i := i) hN hv hd hcd) k hs) fun σ H Q h => ?_
  obtain ⟨Hs, ρ, P, PX, hr, ⟨z, ht⟩, hq, hx⟩ := h
  exact ⟨.ref f, (hr.exc i _ _ _ z).1, Hs, ρ, P, PX, hr, ht, hq, hx⟩
theorem pvAi_consV {t : TeD} {u : TaD} (h : Pv X fx Wx e t) (k : PvAi X fx Wx j f es u) (hs : starEach (e :: es) X.env = (false, eval e X.env) :: starEach es X.env := by rfl) : PvAi X fx Wx (j + 1) f (e :: es) (tConsV t u) := by
  refine PA.imp (pa_cons h k hs) fun σ H Q h => ?_
  obtain ⟨Hs, ρ, P, PX, hr, ht, hq, hx⟩ := h
  refine ⟨Hs, ρ, _, PX, hr, ht, fun g1 v r h1 e1 rp1 p1 => ?_, hx⟩
  obtain ⟨Hs1, ρ1, σ1, H1⟩ := g1
  obtain rfl : σ1 = σ := e1.sg
  refine ⟨Hs1, ρ1, _, PX, h1, p1, fun g2 vs rs h2 e2 rp2 p2 => hq g2 (v :: vs) (r :: rs) h2 (e1.trans e2) ⟨e2.keep rp1, rp2.back e1.ext⟩ p2, hx.go e1.ext⟩
theorem pvAi_consF {t : TeD} {u : TaD} (h : Pv X fx Wx e t) (k : PvAi X fx Wx j f es u) (hs : starEach (e :: es) X.env = (false, eval e X.env) :: starEach es X.env := by rfl) : PvAi X fx Wx (j + 1) f (e :: es) (tConsF t u) := by
  refine PA.imp (pa_cons h k hs) fun σ H Q h => ?_
  obtain ⟨Hs, ρ, P, PX, hr, ht, hq, hx⟩ := h
  refine ⟨Hs, ρ, _, PX, hr, ht, fun g1 v r h1 e1 rp1 p1 => ?_, hx⟩
  obtain ⟨⟨d, ρ2⟩, q1, q2⟩ := onSome_ex p1
  obtain ⟨Hs2, h2, e2, dp, kp, _⟩ := freeze e1.ext h1 rp1 q1
  obtain ⟨Hs1, ρ1, σ1, H1⟩ := g1
  obtain rfl : σ1 = σ := e1.sg
  have g2 : GoE fx ⟨Hs, ρ, σ1, H⟩ ⟨Hs2, ρ2, σ1, H1⟩ := ⟨e2, rfl, fun i w hi => let ⟨w', z⟩ := e1.kp i w hi; kp i w' z⟩
  refine ⟨Hs2, ρ2, _, PX, h2, q2, fun g3 vs rs h3 e3 rp3 p3 => hq g3 (v :: vs) (.val d :: rs) h3 (g2.trans e3) ⟨dp_mono e3.ext.same _ _ dp, rp3.back g2.ext⟩ p3, hx.go e2⟩
/-! ### the callee's slots: data, and the def -/
def PtOk (K : PySem.W.Frag) (H : Hp) : List V → List W → Prop
  | [], [] => True
  | v :: vs, .val d :: ws => Dp K H v d ∧ PtOk K H vs ws
  | v :: vs, .exc f _ fs :: ws => (v = .ref f ∧ fs = []) ∧ PtOk K H vs ws
  | _, _ => False
variable {K : PySem.W.Frag} {H : Hp}
theorem pt_of {Hs : Hp} (s : Same Hs H) : ∀ {vs : List V} {ds : List D}, SemB.LkAll K Hs H vs ds → PtOk K H vs (ds.map .val)
  | [], [], _ => trivial
  | _ :: _, _ :: _, h => ⟨h.1.dp s, pt_of s h.2⟩
  | [], _ :: _, h => h.elim
  | _ :: _, [], h => h.elim
theorem pt_ins {f : Addr} : ∀ {j : Nat} {vs : List V} {ws : List W}, PtOk K H vs ws → PtOk K H (vs.take j ++ .ref f :: vs.drop j) (ws.take j ++ .exc f f [] :: ws.drop j)
  | 0, _, _, h => ⟨⟨rfl, rfl⟩, h⟩
  | j + 1, [], [], _ => ⟨⟨rfl, rfl⟩, trivial⟩
  | j + 1, _ :: _, .val _ :: _, h => ⟨h.1, pt_ins h.2⟩
  | j + 1, _ :: _, .exc _ _ _ :: _, h => ⟨h.1, pt_ins h.2⟩
  | _ + 1, [], _ :: _, h => h.elim
  | _ + 1, _ :: _, [], h => h.elim
  | _ + 1, _ :: _, .own _ :: _, h => h.elim
  | _ + 1, _ :: _, .nst _ _ :: _, h => h.elim
  | _ + 1, _ :: _, .reg _ :: _, h => h.elim
theorem pt_len : ∀ {vs : List V} {ws : List W}, PtOk K H vs ws → vs.length = ws.length
  | [], [], _ => rfl
  | _ :: _, .val _ :: _, h => by rw [List.length_cons, List.length_cons, pt_len h.2]
  | _ :: _, .exc _ _ _ :: _, h => by rw [List.length_cons, List.length_cons, pt_len h.2]
  | [], _ :: _, h => h.elim
  | _ :: _, [], h => h.elim
  | _ :: _, .own _ :: _, h => h.elim
  | _ :: _, .nst _ _ :: _, h => h.elim
  | _ :: _, .reg _ :: _, h => h.elim
theorem pt_get : ∀ {vs : List V} {ws : List W} {i : Nat} {w : W}, PtOk K H vs ws → ws[i]? = some w → ∃ v, vs[i]? = some v ∧ ((∃ d, w = .val d ∧ Dp K H v d) ∨ ∃ f g, w = .exc f g [] ∧ v = .ref f)
  | [], [], i, w, _, e => by simp at e
  | v :: _, .val d :: _, 0, w, h, e => by
    rw [List.getElem?_cons_zero] at e
    cases e
    exact ⟨v, rfl, .inl ⟨d, rfl, h.1⟩⟩
  | v :: _, .exc f g fs :: _, 0, w, h, e => by
    rw [List.getElem?_cons_zero] at e
    cases e
    exact ⟨v, rfl, .inr ⟨f, g, by rw [h.1.2], h.1.1⟩⟩
  | _ :: _, .val _ :: _, i + 1, w, h, e => by
    rw [List.getElem?_cons_succ] at e
    obtain ⟨v, a, b⟩ := pt_get h.2 e
    exact ⟨v, by rw [List.getElem?_cons_succ]; exact a, b⟩
  | _ :: _, .exc _ _ _ :: _, i + 1, w, h, e => by
    rw [List.getElem?_cons_succ] at e
    obtain ⟨v, a, b⟩ := pt_get h.2 e
    exact ⟨v, by rw [List.getElem?_cons_succ]; exact a, b⟩
  | [], _ :: _, _, _, h, _ => h.elim
  | _ :: _, [], _, _, h, _ => h.elim
  | _ :: _, .own _ :: _, _, _, h, _ => h.elim
  | _ :: _, .nst _ _ :: _, _, _, h, _ => h.elim
  | _ :: _, .reg _ :: _, _, _, h, _ => h.elim
theorem pt_noown {vs : List V} {ws : List W} (h : PtOk K H vs ws) {a : Addr} : ¬ OwnAt (ws.map some) (vs.map some) a := fun ⟨i, xs, o⟩ => by
  cases o with
  | top h1 _ =>
    obtain ⟨v, _, ⟨d, z, _⟩ | ⟨f, g, z, _⟩⟩ := pt_get h (map_some_get.mp h1) <;> cases z
  | sub h1 _ =>
    obtain ⟨v, _, ⟨d, z, _⟩ | ⟨f, g, z, _⟩⟩ := pt_get h (map_some_get.mp h1) <;> cases z
  | reg h1 _ =>
    obtain ⟨v, _, ⟨d, z, _⟩ | ⟨f, g, z, _⟩⟩ := pt_get h (map_some_get.mp h1) <;> cases z
theorem pt_rel {vs : List V} {ws : List W} (h : PtOk K H vs ws) : Rel K ⟨H, ws.map some, vs.map some, H⟩ := by
  refine ⟨by simp [pt_len h], .refl _, fun i d hd => ?_, fun i xs hx => ?_, fun i j q xs ys a1 _ => absurd ⟨i, xs, a1⟩ (pt_noown h), fun i p its hx => ?_, fun i a dd fs hx => ?_, fun i r hx => ?_⟩
  · obtain ⟨v, hv, ⟨d', z, dp⟩ | ⟨f, g, z, _⟩⟩ := pt_get h (map_some_get.mp hd)
    · cases z
      exact ⟨v, map_some_get.mpr hv, dp⟩
    · cases z
  · obtain ⟨v, _, ⟨d, z, _⟩ | ⟨f, g, z, _⟩⟩ := pt_get h (map_some_get.mp hx) <;> cases z
  · obtain ⟨v, _, ⟨d, z, _⟩ | ⟨f, g, z, _⟩⟩ := pt_get h (map_some_get.mp hx) <;> cases z
  · obtain ⟨v, hv, ⟨d', z, dp⟩ | ⟨f, g, z, e⟩⟩ := pt_get h (map_some_get.mp hx)
    · cases z
    · cases z
      subst e
      exact ⟨map_some_get.mpr hv, .inl rfl⟩
  · obtain ⟨v, _, ⟨d, z, _⟩ | ⟨f, g, z, _⟩⟩ := pt_get h (map_some_get.mp hx) <;> cases z
end
section
variable (P : Program) (w : World) (K : PySem.W.Frag) (mg : Str → Option Value) (base : Heap)
/-- a def that keeps a promise where it is handed the def g -/
def CalF (k : Nat) (x : Str) (ps : List Str) (g : Str) (fx : List Nat) (sp : Addr → SpD) : Prop := ∃ f fd, (∀ a, mg g = some (.ref a) → FnOk P w K mg base (L2N.CX P w) k f fd ps (lower K mg fx (sp a))) ∧ mg x = some (.ref f) ∧ PySem.W.keepIn K (.ref f) = true ∧ Binds K fd ps []
end
section
variable {P : Program} {w : World} {K : PySem.W.Frag} {mg : Str → Option Value} {base : Heap}
theorem calF_of {x g : Str} {st : Stmt} {N ps : List Str} {k : Nat} {sp : Addr → SpD} {t : Addr → TsD} {fx : List Nat} (d : Dfn K mg x st ps) (S : FnScope N ps (defScope st)) (len : ∀ a ws Q E, sp a ws Q E → ws.length = ps.length)
    (hb : ∀ (a : Addr) (ha : mg g = some (.ref a)) (f : Addr) (cdv : Value) (A : Around) (outer : List Env) (s : Shared) (H : Hp) (E : XK), Room k (A.deeper (PyProof.Rows.envOfC x (defScope st) s.heap.objs.size f cdv)) →
      PvB (cxOf (L2N.CX P w) P w K mg base N x (defScope st) f cdv A outer s H E) fx (fun cls d _ H => E cls d H) (defBody st) (t a))
    (hvc : ∀ a ws Q E, sp a ws Q E → t a (endsOf fx ws Q E) (startD N ws)) : CalF P w K mg base (k + 1) x ps g fx sp := by
  obtain ⟨f, fd, F, hm, hbd⟩ := d
  exact ⟨f, fd, fun a ha => fn_okD F S (len a) (fun cdv A outer s H E hr => hb a ha f cdv A outer s H E hr) (hvc a), hm, F.kp, hbd⟩
end
theorem brO {b : Bool} {k : Bool → Prop} (h : b = true) (q : k true) : onSome (asB (some (.bool b))) k := by
  subst h
  exact q
section
variable {X : Cx} {fx : List Nat} {Wx : WX} {e a b c : Expr} {es : List Expr} {pos : Pos}
/-- the local name of a def that was handed on is called -/
def tCallLD (i : Nat) (f : Addr) (fxf : List Nat) (sp : SpD) (t : TaD) : TeD := fun ρ P PX => ρ[i]? = some (some (.exc f f [])) ∧ tCallD fxf sp t ρ P PX
theorem pv_callLC {j k : Nat} {ps : List Str} {sp : SpD} {g x : Str} {p : Pos} {t : TaD} {fxf : List Nat} {f : Addr} (i : Nat) (C : Cal X.prog X.w X.K X.mg X.base j g ps fxf sp) (hf : X.mg g = some (.ref f)) (hj : j ≤ k) (hr : Room k X.A)
    (tk : L2N.Takes X Wx) (ha : PvA X fx Wx (e :: es) t) (hN : X.N[i]? = some x := by rfl) (hv : Vis X.env.scope x := by first | exact Or.inl rfl | exact Or.inr (Or.inl rfl) | exact Or.inr (Or.inr rfl)) (hdb : (x == ("__debug__" : Str)) = false := by decide) (hcd : (x == ("__classdict__" : Str)) = false := by decide)
    (he : starEach (e :: es) X.env = (false, eval e X.env) :: starEach es X.env := by rfl) (hpl : (backTo pos (starEach es X.env)).any (·.1) = false := by rfl) : Pv X fx Wx (.Call (.Name x p) (e :: es) [] pos) (tCallLD i f fxf sp t) := by
  obtain ⟨f', fd, F, hm, hk, hb, _⟩ := C
  rw [hm] at hf
  cases hf
  refine PE.imp (pe_callLS (F.mono hj) hr hN hv hk hb (fun σ => L2N.passAt tk σ) ha hdb hcd he hpl) fun σ H Q h => ?_
  obtain ⟨Hs, ρ, P, PX, hr, ⟨z, ht⟩, hq, hx⟩ := h
  exact ⟨(hr.exc i _ _ _ z).1, call_imp σ H Q ⟨Hs, ρ, P, PX, hr, ht, hq, hx⟩⟩
/-- a def is handed the def at f in its j-th place -/
def tCallBF (j : Nat) (f : Addr) (sp : Addr → SpD) (t : TaD) : TeD := fun ρ P PX => t ρ (fun rs ρ1 => onSome (rdAll ρ1 rs) fun ds => sp f ((ds.map W.val).take j ++ .exc f f [] :: (ds.map W.val).drop j) (fun w _ => flatW w = true ∧ P w.r ρ1) (fun x _ => x.fs = [] ∧ PX x ρ1)) PX
theorem pv_callBF {n k j : Nat} {ps : List Str} {sp : Addr → SpD} {x g : Str} {p : Pos} {t : TaD} {fxf : List Nat} {f : Addr} (C : CalF X.prog X.w X.K X.mg X.base n x ps g fxf sp) (hf : X.mg g = some (.ref f)) (hn : n ≤ k) (hr : Room k X.A) (hg : Gl X x)
    (tk : L2N.Takes X Wx) (ha : PvAi X fx Wx j f (e :: es) t) (hdb : (x == ("__debug__" : Str)) = false := by decide)
    (he : starEach (e :: es) X.env = (false, eval e X.env) :: starEach es X.env := by rfl) (hpl : (backTo pos (starEach es X.env)).any (·.1) = false := by rfl) : Pv X fx Wx (.Call (.Name x p) (e :: es) [] pos) (tCallBF j f sp t) := by
  obtain ⟨fc, fd, F, hm, hk, hb⟩ := C
  refine PE.imp (pe_callS ((F f hf).mono hn) hr hg hm hk hb (fun σ => L2N.passAt tk σ) ha hdb he hpl) fun σ H Q h => ?_
  obtain ⟨Hs, ρ, P, PX, hr, ht, hq, hx⟩ := h
  refine ⟨Hs, ρ, _, PX, hr, ht, fun g1 vs rs h1 e1 rp1 p1 => ?_, hx⟩
  obtain ⟨ds, q1, q3⟩ := onSome_ex p1
  have lk := rp1.lk h1 q1
  obtain ⟨Hs1, ρ1, σ1, H1⟩ := g1
  obtain rfl : σ1 = σ := e1.sg
  have pt := pt_ins (f := f) (j := j) (pt_of h1.same lk)
  have pt : PtOk X.K H1 (vs.take j ++ .ref f :: vs.drop j) ((ds.map W.val).take j ++ .exc f f [] :: (ds.map W.val).drop j) := pt
  have no := fun a => pt_noown pt (a := a)
  have rl := pt_rel pt
  generalize (ds.map W.val).take j ++ .exc f f [] :: (ds.map W.val).drop j = ws at q3 pt no rl
  generalize vs.take j ++ V.ref f :: vs.drop j = vs' at pt no rl ⊢
  -- what stands behind the call
  have fin : ∀ g', Ext [] ⟨H1, ws.map some, vs'.map some, H1⟩ g' → Rel X.K ⟨Hs1, ρ1, σ1, g'.H⟩ ∧ GoE fx ⟨Hs1, ρ1, σ1, H1⟩ ⟨Hs1, ρ1, σ1, g'.H⟩ := fun g' e' => by
    have sm : Same H1 g'.H := fun a o x => e'.frame a o x (no a)
    have h1s : Same Hs1 H1 := h1.same
    refine ⟨⟨h1.len, h1s.trans sm, h1.val, fun i xs hx => ?_, h1.sepO, fun i p its hx => let ⟨q1, q2⟩ := h1.nst i p its hx; ⟨q1, q2.mono (.refl _) (fun _ k => sm _ _ k) fun q xs us _ y n => ⟨sm _ _ y, n⟩⟩, fun i a dd fs hx => let ⟨q1, q2⟩ := h1.exc i a dd fs hx; ⟨q1, q2.mono (.refl _) fun _ k => sm _ _ k⟩, fun i r hx => let ⟨v, q1, q2⟩ := h1.reg i r hx; ⟨v, q1, q2.mono (.refl _) fun _ _ _ y n => ⟨sm _ _ y, n⟩⟩⟩, ⟨⟨.refl _, fun a o x n => (by have x : Hs1 a = some o := x; have n : Hs1 a = none := n; rw [n] at x; cases x), fun a o x _ => sm a o x, fun a o x => ⟨o, sm a o x⟩, fun a x => .inl x, fun _ _ => rfl, rfl⟩, rfl, fun i w x => ⟨w, x⟩⟩⟩
    obtain ⟨q, us, a, b, c, d⟩ := h1.own i xs hx
    exact ⟨q, us, a, sm _ _ b, c, d⟩
  refine ⟨H1, ws, _, _, rl, fun i w z => ?_, q3, fun g' v w ws' hρ hσ h' e' rp' pw => ?_, fun g' cls d x ws' hρ hσ h' e' xr px => ?_⟩
  · obtain ⟨v, _, ⟨d, y, _⟩ | ⟨f, g, y, _⟩⟩ := pt_get pt z <;> rw [y] <;> trivial
  · obtain ⟨a, b⟩ := fin g' e'
    obtain ⟨fl, pw⟩ := pw
    refine hq ⟨Hs1, ρ1, σ1, g'.H⟩ v w.r a (e1.trans b) ?_ pw
    refine Rep.back e1.ext (g' := ⟨Hs1, ρ1, σ1, g'.H⟩) ?_
    cases w with
    | val d => exact dp_flat fl rp'
    | exc _ _ _ => cases fl
    | nst _ _ => cases fl
    | reg _ => cases fl
    | own xs =>
      obtain ⟨q, us, z1, z2, z3, z4, z5, z6⟩ := rp'
      have z6 : H1 q = none := z6.elim id False.elim
      refine ⟨q, us, z1, z2, dpa_flat fl z3, ?_, fun z => ?_, .inl z6⟩
      · show Hs1 q = none
        cases y : Hs1 q with
        | none => rfl
        | some o =>
          have : H1 q = some o := h1.same q o y
          rw [z6] at this; cases this
      · obtain ⟨us2, y, _⟩ := OwnAt.there h1 z
        have y : H1 q = some us2 := y
        rw [z6] at y; cases y
  · obtain ⟨a, b⟩ := fin g' e'
    obtain ⟨fl, px⟩ := px
    refine hx ⟨Hs1, ρ1, σ1, g'.H⟩ cls d x a (e1.trans b).ext ?_ px
    obtain ⟨x1, x2⟩ := xr
    refine ⟨x1, .inl ⟨fl, ?_⟩⟩
    rcases x2 with ⟨_, z⟩ | ⟨dd, fv, z, _⟩
    · exact z
    · exact absurd fl z
/-- .. the def g of the text -/
def tCallBG (j : Nat) (sp : Addr → SpD) (t : TaD) : TeD := fun ρ P PX => ∀ f, tCallBF j f sp t ρ P PX
theorem pv_callBG {n m k j : Nat} {ps psg : List Str} {sp : Addr → SpD} {spg : SpD} {x g : Str} {p : Pos} {t : TaD} {fxf fxg : List Nat} (C : CalF X.prog X.w X.K X.mg X.base n x ps g fxf sp) (Cg : Cal X.prog X.w X.K X.mg X.base m g psg fxg spg) (hn : n ≤ k) (hr : Room k X.A) (hg : Gl X x)
    (tk : L2N.Takes X Wx) (ha : ∀ f, X.mg g = some (.ref f) → PvAi X fx Wx j f (e :: es) t) (hdb : (x == ("__debug__" : Str)) = false := by decide)
    (he : starEach (e :: es) X.env = (false, eval e X.env) :: starEach es X.env := by rfl) (hpl : (backTo pos (starEach es X.env)).any (·.1) = false := by rfl) : Pv X fx Wx (.Call (.Name x p) (e :: es) [] pos) (tCallBG j sp t) := by
  obtain ⟨f, fd, F, hm, _⟩ := Cg
  exact PE.imp (pv_callBF C hm hn hr hg tk (ha f hm) hdb he hpl) fun σ H Q ⟨Hs, ρ, P, PX, hr, ht, hq, hx⟩ => ⟨Hs, ρ, P, PX, hr, ht f, hq, hx⟩
end
end RR

/-! LayRep: repr of data; defs that are run where no repr is under way (the guards are empty). -/
namespace RR
open PySem PySem.Spec PyProof.Rows L2
/-- what repr needs of a thing -/
def Shw (d : D) : Prop := d.showable = true ∧ d.hasDict = false ∧ d.depth ≤ 64 ∧ d.shown.length ≤ sizeLine
section
variable {X : Cx}
def rRep (K : PySem.W.Frag) : List V → Hp → VK → Prop := fun xs H Q => ∃ v d, xs = [v] ∧ Dp K H v d ∧ Shw d ∧ Q (.str d.shown) H
theorem call_reprD (hg : X.A.guards = some []) (hu : X.A.units + 100 < cLine) : CallR X (.builtin "repr") (rRep X.K) := by
  intro pins s σ H xs us Q I r h
  obtain ⟨v, d, rfl, dp, ⟨h1, h2, h3, h4⟩, q⟩ := h
  obtain ⟨u, rfl, ru⟩ := vals1 r
  obtain ⟨as, rds⟩ := Dp.reads I d v u dp ru
  have byRef : ∀ a : Addr, u = .ref a → wpAny (model X.prog X.w) X.A (call (.builtin "repr") [u]) (EP X pins σ Q) X.xe s := fun a ea => by
    subst ea
    exact PySem.repr_of_reads' rds h1 (fun e => by rw [h2] at e; cases e) hg (by omega) (fun _ _ e => e) (fun h' t tk k => ⟨.str _, H, I.kept (t' := tk) k, ⟨t, rfl⟩, q⟩) h4
  cases rds with
  | none => exact PySem.P.repr_of_none ⟨.str _, H, I.tok _, ⟨_, rfl⟩, q⟩
  | bool b => exact PySem.P.repr_of_bool ⟨.str _, H, I.tok _, ⟨_, rfl⟩, q⟩
  | int i t => exact PySem.P.repr_of_int (by simpa [PyData.showable] using h1) ⟨.str _, H, I.tok _, ⟨_, rfl⟩, q⟩
  | str x t => exact PySem.P.repr_of_str ⟨.str _, H, I.tok _, ⟨_, rfl⟩, q⟩ h4
  | list _ _ _ _ => exact byRef _ rfl
  | tuple _ _ _ _ => exact byRef _ rfl
  | dict _ _ _ _ _ => exact byRef _ rfl
end
def gRep : GB := fun ds P => ∃ d, ds = [d] ∧ Shw d ∧ P (.val (.str d.shown))
theorem sem_rep {K : PySem.W.Frag} : SemB K (rRep K) gRep := by
  intro Hs H xs ds P Q sm l h k
  obtain ⟨d, rfl, hd, h⟩ := h
  obtain ⟨v, rfl, lk⟩ := lk1 l
  exact ⟨_, _, rfl, lk.dp sm, hd, k _ _ _ h (.pure sm (.str _))⟩
/-- two texts compared -/
def gNeS : G2 := fun x y P => match x, y with
  | .str i, .str j => P (.val (.bool (!decide (i = j))))
  | _, _ => False
theorem sem_neS {K : PySem.W.Frag} : Sem2 K rNe gNeS := by
  intro Hs H x y dx dy P Q sm lx ly h k
  unfold gNeS at h
  split at h
  · obtain rfl := lx.str
    obtain rfl := ly.str
    refine ⟨rfl, ?_⟩
    have e : ∀ i j : Str, decide (V.str i = V.str j) = decide (i = j) := fun i j => by
      rw [Bool.eq_iff_iff, decide_eq_true_iff, decide_eq_true_iff]
      exact ⟨fun z => V.str.inj z, fun z => by rw [z]⟩
    rw [e]
    exact k _ _ _ h (res_bool sm)
  · exact h.elim
theorem room100 {k : Nat} {A : Around} (r : Room k A) : A.units + 100 < cLine := by have := r.un; omega
theorem room100H {k : Nat} {A : Around} (r : L2H.RoomH k A) : A.units + 100 < cLine := by have := r.un; omega

/-! ### defs that are run where the guards are empty -/
/-- a def's promise there -/
structure FnG (P : Program) (w : World) (K : PySem.W.Frag) (mg : Str → Option Value) (base : Heap) (k : Nat) (f : Addr) (fd : FuncData) (ps : List Str) (sp : Sp) : Prop where
  len : ∀ vs H Q E, sp vs H Q E → vs.length = ps.length
  go : ∀ {A : Around} {outer : List Env} {s : Shared} {H : Hp} {args : Args} {us : List Value} {vs : List V} {Q : VK} {E : XK}, A.guards = some [] → Room k A → Env0 P w K mg base A outer s H →
    BindsTo s fd args (ps.zip us) → Vals vs us → sp vs H Q E → codeAny (model P w) A (.call (.ref f) args) (CR (L2N.CX P w) outer P w H s Q E) s
section
variable {P : Program} {w : World} {K : PySem.W.Frag} {mg : Str → Option Value} {base : Heap}
theorem FnG.up {j k : Nat} {f : Addr} {fd : FuncData} {ps : List Str} {sp : Sp} (F : FnG P w K mg base j f fd ps sp) (h : j ≤ k) : FnG P w K mg base k f fd ps sp := ⟨F.len, fun hg hr => F.go hg (hr.mono h)⟩
theorem FnG.weak {k : Nat} {f : Addr} {fd : FuncData} {ps : List Str} {sp sp' : Sp} (F : FnG P w K mg base k f fd ps sp) (h : ∀ vs H Q E, sp' vs H Q E → sp vs H Q E) : FnG P w K mg base k f fd ps sp' :=
  ⟨fun vs H Q E q => F.len vs H Q E (h _ _ _ _ q), fun hg hr he hb hv q => F.go hg hr he hb hv (h _ _ _ _ q)⟩
theorem fnG_of {x qual : Str} {st : Stmt} {f : Addr} {fd : FuncData} {N ps : List Str} {k : Nat} {sp : Sp} (F : Fun K x qual st f fd) (S : FnScope N ps (defScope st)) (len : ∀ vs H Q E, sp vs H Q E → vs.length = ps.length)
    (hb : ∀ (cdv : Value) (A : Around) (outer : List Env) (s : Shared) (H : Hp) (vs : List V) (Q : VK) (E : XK), A.guards = some [] → Room k (A.deeper (PyProof.Rows.envOfC qual (defScope st) s.heap.objs.size f cdv)) → sp vs H Q E →
      ∃ t, PSs (cxOf (L2N.CX P w) P w K mg base N qual (defScope st) f cdv A outer s H E) (defBody st) t ∧ t { nx := fun _ H' => Q .non H', rt := Q } (L2.start N vs) H) : FnG P w K mg base (k + 1) f fd ps sp := by
  obtain ⟨oc, od, kV, doc, pm, an, cdv, ct, osl, rfl, lk, hcd⟩ := F.ex
  refine ⟨len, fun {A outer s H args us vs Q E} hg hr e0 bd r h => ?_⟩
  have ln := len _ _ _ _ h
  refine Att.call_fn (e0.mod.kin.keeps fun b o e => (e0.bs b o e).1) (e0.mod.nolimit.keeps fun b o e => (e0.bs b o e).1) lk hcd hr.depth bd ?_ (fun s1 x => ?_) S.co S.gen S.kind
  · refine List.all_eq_true.mpr fun ⟨n, v⟩ m => ?_
    rcases S.par n (List.of_mem_zip m).1 with z | z
    · simp [z]
    · simp [z]
  · obtain ⟨t, pt, ht⟩ := hb cdv A outer s H vs Q E hg (hr.deeper _) h
    have J := inv_start (CX := L2N.CX P w) (E := E) S hr.hd e0 ln r x
    refine wpAny_mono (pt.run [] s1 _ H _ J ht) (fun fl s2 z => ?_) fun _ _ z => z
    cases fl with
    | brk => exact z.elim fun _ ⟨_, _, q⟩ => q.elim
    | cont => exact z.elim fun _ ⟨_, _, q⟩ => q.elim
    | next =>
      obtain ⟨σ2, H2, J2, q⟩ := z
      exact ⟨.non, H2, J2.os, J2.bare, J2.base, J2.hok, rfl, q⟩
    | ret u =>
      obtain ⟨v, σ2, H2, J2, rv, q⟩ := z
      exact ⟨v, H2, J2.os, J2.bare, J2.base, J2.hok, rv, q⟩
end
section
variable (P : Program) (w : World) (K : PySem.W.Frag) (mg : Str → Option Value) (base : Heap)
/-- a def of the text that keeps a promise there -/
def CalG (k : Nat) (x : Str) (ps : List Str) (fx : List Nat) (sp : SpD) : Prop := ∃ f fd, FnG P w K mg base k f fd ps (lower K mg fx sp) ∧ mg x = some (.ref f) ∧ PySem.W.keepIn K (.ref f) = true ∧ Binds K fd ps [] ∧
  ∃ oc od osl, K.lookup f = some ⟨oc, od, .func fd, osl⟩
end
section
variable {P : Program} {w : World} {K : PySem.W.Frag} {mg : Str → Option Value} {base : Heap}
theorem fnG_okD {x qual : Str} {st : Stmt} {f : Addr} {fd : FuncData} {N ps : List Str} {k : Nat} {sp : SpD} {t : TsD} {fx : List Nat} (F : Fun K x qual st f fd) (S : FnScope N ps (defScope st)) (len : ∀ ws Q E, sp ws Q E → ws.length = ps.length)
    (hb : ∀ (cdv : Value) (A : Around) (outer : List Env) (s : Shared) (H : Hp) (E : XK), A.guards = some [] → Room k (A.deeper (PyProof.Rows.envOfC qual (defScope st) s.heap.objs.size f cdv)) →
      PvB (cxOf (L2N.CX P w) P w K mg base N qual (defScope st) f cdv A outer s H E) fx (fun cls d _ H => E cls d H) (defBody st) t)
    (hvc : ∀ ws Q E, sp ws Q E → t (endsOf fx ws Q E) (startD N ws)) : FnG P w K mg base (k + 1) f fd ps (lower K mg fx sp) := by
  refine fnG_of F S (fun vs H Q E h => ?_) fun cdv A outer s H vs Q E hg hr h => ?_
  · obtain ⟨Hs, ws, P', PX, h1, _, h2, _⟩ := h
    have := len _ _ _ h2
    have h3 := h1.len
    simp only [List.length_map] at h3
    omega
  · obtain ⟨Hs, ws, P', PX, h1, hfx, h2, hq, hx⟩ := h
    exact ⟨_, hb cdv A outer s H E hg hr, Hs, startD N ws, endsOf fx ws P' PX, rel_start h1, hvc _ _ _ h2, fn_end rfl rfl h1 hfx hq hx⟩
theorem calG_of {x : Str} {st : Stmt} {N ps : List Str} {k : Nat} {sp : SpD} {t : TsD} {fx : List Nat} (d : Dfn K mg x st ps) (S : FnScope N ps (defScope st)) (len : ∀ ws Q E, sp ws Q E → ws.length = ps.length)
    (hb : ∀ (f : Addr) (cdv : Value) (A : Around) (outer : List Env) (s : Shared) (H : Hp) (E : XK), A.guards = some [] → Room k (A.deeper (PyProof.Rows.envOfC x (defScope st) s.heap.objs.size f cdv)) →
      PvB (cxOf (L2N.CX P w) P w K mg base N x (defScope st) f cdv A outer s H E) fx (fun cls d _ H => E cls d H) (defBody st) t)
    (hvc : ∀ ws Q E, sp ws Q E → t (endsOf fx ws Q E) (startD N ws)) : CalG P w K mg base (k + 1) x ps fx sp := by
  obtain ⟨f, fd, F, hm, hbd⟩ := d
  obtain ⟨oc, od, kV, doc, pm, an, cdv, ct, osl, h1, h2, h3⟩ := F.ex
  exact ⟨f, fd, fnG_okD F S len (fun cdv A outer s H E hg hr => hb f cdv A outer s H E hg hr) hvc, hm, F.kp, hbd, oc, od, osl, h2⟩
end
/-- the law's end, from its promise over data -/
theorem lawG_of {P : Program} {w : World} {K : PySem.W.Frag} {mg : Str → Option Value} {base : Heap} {k : Nat} {x : Str} {ps : List Str} {f : Addr} (C : CalG P w K mg base k x ps [] spLaw) (hm : mg x = some (.ref f)) {fd' : FuncData} {st : Stmt} (F' : Fun K x x st f fd') : FnG P w K mg base k f fd' ps (spLawH K) := by
  obtain ⟨f', fd, F, hm', _, _, oc, od, osl, lk⟩ := C
  rw [hm] at hm'
  cases hm'
  obtain ⟨oc2, od2, kV, doc, pm, an, cdv, ct, osl2, h1, h2, h3⟩ := F'.ex
  rw [lk] at h2
  cases h2
  refine F.weak fun vs H Q E h => ?_
  obtain ⟨a, ns, rfl, hs, hl, q⟩ := h
  have one : ∀ {i : Nat} {w : W}, ([some (W.val (.list (ns.map .int)))] : Rho)[i]? = some (some w) → i = 0 ∧ w = .val (.list (ns.map .int)) := fun {i w} e => by
    cases i with
    | zero => simp at e; exact ⟨rfl, e.symm⟩
    | succ i => simp at e
  refine ⟨H, [.val (.list (ns.map .int))], fun w _ => w = .val (.bool true), fun _ _ => False, ⟨rfl, .refl _, fun i d hd => ?_, fun i xs hx => ?_, fun i j p xs ys h1 _ => ?_, fun i p its hx => ?_, fun i a dd fs hx => ?_, fun i r hx => ?_⟩, fun i w hx => ?_, ⟨ns, rfl, hl, rfl⟩, fun g' v w ws' _ _ r e rp z => ?_, fun _ _ _ _ _ _ _ _ _ _ z => z.elim⟩
  · obtain ⟨rfl, z⟩ := one hd
    cases z
    exact ⟨.ref a, rfl, .lst hs (dpa_of_ints ns)⟩
  · cases (one hx).2
  · cases h1 with
    | top h1 _ => cases (one h1).2
    | sub h1 _ => cases (one h1).2
    | reg h1 _ => cases (one h1).2
  · cases (one hx).2
  · cases (one hx).2
  · cases (one hx).2
  · obtain ⟨rfl, z⟩ := one (map_some_get.mpr hx)
    subst z
    trivial
  · subst z
    rw [dp_bool (show Dp K g'.Hs v (.bool true) from rp)]
    exact q _
/-- the script as it stands at the start, tracked where it is no object of the text -/
def scrH (K : PySem.W.Frag) (a : Addr) (vs : List Value) (ns : List Int) : Hp := fun b => if b = a ∧ K.lookup a = none then some (.frz { cls := .type "list", data := .seq vs.toArray } (.lst (ns.map V.int))) else none
theorem scrH_get {K : PySem.W.Frag} {a b : Addr} {vs : List Value} {ns : List Int} {o : HO} (h : scrH K a vs ns b = some o) : b = a ∧ K.lookup a = none ∧ o = .frz { cls := .type "list", data := .seq vs.toArray } (.lst (ns.map V.int)) := by
  unfold scrH at h
  split at h
  · next z => exact ⟨z.1, z.2, (Option.some.inj h).symm⟩
  · cases h
theorem walk_ofG {l : PySem.W.OpenLaw} {n k : Nat} {q : Program} {loose : List Str} {XP : (Str → Option Value) → Heap → Prop} {YP : World → Heap → Prop} {d : DefRec} {K : Params → PySem.W.Frag} {x : Str} (hn : l.most = some n) (hn2 : n ≤ 63) (hdf : d.params.defaults = [])
    (hr : Room k callerA) (hY : ∀ (w : World) (h : Heap), YP w h → (K w.params).In h)
    (F : ∀ (w : World) (mg : Str → Option Value) (fa : Addr) (h : Heap), (K w.params).In h → h.Ns mainGlobals mg → mg d.name = some (.ref fa) → ∃ fd : FuncData, (∀ (s : Shared) (u : Value), BindsTo s fd ⟨[u], []⟩ [(x, u)]) ∧
      ∀ base : Heap, (K w.params).In base → base.Ns mainGlobals mg → FnG l.prog w (K w.params) mg base k fa fd [x] (spLawH (K w.params))) : PySem.W.WalkO q loose XP YP l.row.toRowW d [] (fun f vs => PySem.call f vs) := by
  refine Att.attach_call hn hdf fun w s₀ s mg mb fa o pm cd doc a vs ns G Y _ _ _ hmg hobj hi hlen hgens => ?_
  have KX := hY w _ Y
  obtain ⟨fd, bd, hF⟩ := F w mg fa _ KX G.T.g hmg
  have sz : ns.length ≤ sizeLine := mill (by omega)
  generalize hH : scrH (K w.params) a vs ns = H
  have get : ∀ {b : Addr} {u : HO}, H b = some u → b = a ∧ (K w.params).lookup a = none ∧ u = .frz { cls := .type "list", data := .seq vs.toArray } (.lst (ns.map V.int)) := fun {b u} e => scrH_get (by rw [hH]; exact e)
  have rv := vals_ints hi
  have sq : SqL (K w.params) H a (ns.map V.int) := by
    cases hk : (K w.params).lookup a with
    | none => exact .inl (.inr ⟨_, by rw [← hH]; exact if_pos ⟨rfl, hk⟩⟩)
    | some ob =>
      have e := KX a ob hk
      rw [hobj] at e
      cases e
      exact .inr ⟨_, vs.toArray, _, hk, rfl, rfl, rfl, by rw [List.size_toArray, hi.length]; exact sz, by simpa using rv⟩
  have hok : HOk l.prog w H s.heap := fun b u e => by
    obtain ⟨rfl, _, rfl⟩ := get e
    exact ⟨hobj, by rw [List.length_map]; exact sz, vs, _, rv, hobj⟩
  -- the ground without the script
  have dictH : ∀ {b : Addr} {m : Str → Option Value}, s.heap.Ns b m → (hidT s.heap H).Ns b m := fun {b m} ⟨ob, es, ep, e, dt, r⟩ => by
    refine ⟨ob, es, ep, hidT_get e ?_, dt, r⟩
    cases z : H b with
    | none => rfl
    | some u =>
      obtain ⟨rfl, _⟩ := get z
      rw [hobj] at e
      cases e
      cases (show Data.seq vs.toArray _ = Data.dict es ep from dt)
  have inH : (K w.params).In (hidT s.heap H) := fun b ob e => hidT_get (KX b ob e) (by
    cases z : H b with
    | none => rfl
    | some u =>
      obtain ⟨rfl, nk, _⟩ := get z
      rw [nk] at e
      cases e)
  obtain ⟨ml, m1, m2⟩ := G.T.nolimit
  have e0 : Env0 l.prog w (K w.params) mg (hidT s.heap H) callerA [] s H := ⟨rfl, ⟨inH, dictH G.T.g, ⟨mb, dictH G.T.b, G.T.builtins⟩, ⟨ml, dictH m1, m2⟩⟩, fun b ob e => of_hidT e, Nat.le_of_eq (hidT_size _ _), trivial, (fun b m => by cases m), hok, .of_eq hgens⟩
  refine codeAny_mono ((hF _ inH (dictH G.T.g)).go (A := callerA) (us := [.ref a]) (vs := [.ref a]) (Q := fun v _ => v = .bl true) (E := fun _ _ _ => False) rfl hr e0 (bd s (.ref a)) (.cons rfl .nil) ⟨a, ns, rfl, sq, by omega, fun _ => rfl⟩) fun r s2 z => ?_
  match r, z with
  | .error e, z => exact (cx_no z).elim
  | .ok (.ret u), ⟨v, H2, os, bare, un, hok2, rv2, (e : v = .bl true)⟩ =>
    subst e
    cases (show u = Value.bool true from rv2)
    refine ⟨rfl, OldK.of_keep fun b ob e => ?_, os, bare⟩
    cases z : H b with
    | none => exact un.keep b ob e z (fun m => by cases m) (fun m => by cases m)
    | some u =>
      obtain ⟨rfl, _, rfl⟩ := get z
      have y := (hok2 b _ (un.frzs b _ _ z)).1
      rw [hobj] at e
      cases e
      exact y
section
variable {X : Cx} {fx : List Nat} {Wx : WX} {e : Expr} {es : List Expr} {pos : Pos}
/-- a call from where the guards are empty -/
theorem pv_callG {j k : Nat} {ps : List Str} {sp : SpD} {x : Str} {p : Pos} {t : TaD} {fxf : List Nat} (C : CalG X.prog X.w X.K X.mg X.base j x ps fxf sp) (hg0 : X.A.guards = some []) (hj : j ≤ k) (hr : Room k X.A) (hg : Gl X x) (tk : L2N.Takes X Wx) (ha : PvA X fx Wx (e :: es) t)
    (hdb : (x == ("__debug__" : Str)) = false := by decide) (he : starEach (e :: es) X.env = (false, eval e X.env) :: starEach es X.env := by rfl) (hpl : (backTo pos (starEach es X.env)).any (·.1) = false := by rfl) : Pv X fx Wx (.Call (.Name x p) (e :: es) [] pos) (tCallD fxf sp t) := by
  obtain ⟨f, fd, F, hm, hk, hb, _⟩ := C
  refine ⟨fun pins s σ H Q I h => ?_⟩
  have h := call_imp σ H Q h
  refine wpAny_Call_Name_kw (ld_glob I hg hm ?_ hdb)
  refine PySem.W.callWith_K (h₀ := X.base) I.ok.mod.kin hk (thn (ha.run pos pins s σ H _ I h) fun us s1 ⟨vs, H1, I1, r, q⟩ => ⟨I1.kIn, ?_⟩) he hpl
  have ln : us.length = ps.length := by rw [← r.length]; exact F.len _ _ _ _ q
  have bt := hb s1 us I1.kIn (by rw [List.append_nil]; exact ln)
  rw [List.append_nil] at bt
  refine wpAny_call (codeAny_mono (F.go hg0 (hr.mono hj) I1.env0 bt r q) fun r2 s2 z => ?_)
  match r2, z with
  | .error e2, z => exact L2N.passAt tk σ pins H1 s1 e2 s2 I1 z
  | .ok (.ret u), z => exact I1.after z
end
end RR

/-! VRep: things of few parts and small numbers can be shown. -/
namespace RR
open PySem PySem.Spec L2
/-- of depth n, few parts, small numbers -/
def Sh : Nat → D → Prop
  | _, .none => True
  | _, .bool _ => True
  | _, .int i => i.natAbs < 10 ^ 8
  | _, .str x => x.cps.size ≤ 30 ∧ ∀ c ∈ x.cps.toList, c < 16 ^ 8
  | _, .dict _ => False
  | 0, .list _ => False
  | 0, .tuple _ => False
  | n + 1, .list xs => xs.length ≤ 30 ∧ ∀ x ∈ xs, Sh n x
  | n + 1, .tuple xs => xs.length ≤ 30 ∧ ∀ x ∈ xs, Sh n x
def shW : Nat → Nat
  | 0 => 30
  | n + 1 => 30 * (shW n + 1)
theorem shW_30 : ∀ n, 30 ≤ shW n
  | 0 => Nat.le_refl _
  | n + 1 => by
    show 30 ≤ 30 * (shW n + 1)
    omega
/-- all that repr asks -/
def ShP (n : Nat) (d : D) : Prop := d.showable = true ∧ d.hasDict = false ∧ d.depth ≤ n ∧ d.leavesShort 13 = true ∧ d.weight ≤ shW n
theorem shP_all {n : Nat} (ih : ∀ d, Sh n d → ShP n d) : ∀ {xs : List D}, (∀ x ∈ xs, Sh n x) → PyData.showableAll xs = true ∧ PyData.hasDictAll xs = false ∧ PyData.depthAll xs ≤ n ∧ PyData.leavesShortAll 13 xs = true ∧ PyData.weightAll xs ≤ xs.length * (shW n + 1)
  | [], _ => ⟨by simp only [PyData.showableAll], by simp only [PyData.hasDictAll], by simp only [PyData.depthAll]; omega, by simp only [PyData.leavesShortAll], by simp only [PyData.weightAll]; omega⟩
  | x :: xs, h => by
    obtain ⟨a1, a2, a3, a4, a5⟩ := ih x (h x (by simp))
    obtain ⟨b1, b2, b3, b4, b5⟩ := shP_all (xs := xs) ih fun y hy => h y (by simp [hy])
    refine ⟨by simp only [PyData.showableAll, a1, b1, Bool.and_self], by simp only [PyData.hasDictAll, a2, b2, Bool.or_self], by simp only [PyData.depthAll]; omega, by simp only [PyData.leavesShortAll, a4, b4, Bool.and_self], ?_⟩
    simp only [PyData.weightAll, List.length_cons, Nat.add_mul, Nat.one_mul]
    omega
theorem shP_of : ∀ {n : Nat} (d : D), Sh n d → ShP n d
  | n, .none, _ => ⟨rfl, rfl, by simp only [PyData.depth]; omega, rfl, by simp only [PyData.weight]; omega⟩
  | n, .bool b, _ => ⟨rfl, rfl, by simp only [PyData.depth]; omega, rfl, by simp only [PyData.weight]; omega⟩
  | n, .int i, h => by
    have h : i.natAbs < 10 ^ 8 := by cases n <;> exact h
    refine ⟨?_, rfl, by simp only [PyData.depth]; omega, ?_, ?_⟩
    · simp only [PyData.showable]
      refine decide_eq_true ?_
      by_cases z : i.natAbs = 0
      · rw [z]; decide
      · exact Nat.lt_of_lt_of_le ((Nat.log2_lt (k := 27) z).mpr (Nat.lt_of_lt_of_le h (by decide))) (by decide)
    · simp only [PyData.leavesShort]
      exact decide_eq_true (PyData.shown_int_le (Nat.lt_of_lt_of_le h (by decide)))
    · simp only [PyData.weight]
      have := shW_30 n
      split
      · omega
      · next z =>
        have z : ¬ i = 0 := fun e => z (by rw [e]; rfl)
        have := (Nat.log2_lt (n := i.natAbs) (k := 27) (by omega)).mpr (Nat.lt_of_lt_of_le h (by decide))
        omega
  | n, .str x, h => by
    have h : x.cps.size ≤ 30 ∧ ∀ c ∈ x.cps.toList, c < 16 ^ 8 := by cases n <;> exact h
    refine ⟨rfl, rfl, by simp only [PyData.depth]; omega, ?_, ?_⟩
    · simp only [PyData.leavesShort]
      exact List.all_eq_true.mpr fun c hc => decide_eq_true (h.2 c hc)
    · simp only [PyData.weight]
      exact Nat.le_trans h.1 (shW_30 n)
  | 0, .dict _, h => h.elim
  | n + 1, .dict _, h => h.elim
  | 0, .list _, h => h.elim
  | 0, .tuple _, h => h.elim
  | n + 1, .list xs, ⟨h1, h2⟩ => by
    obtain ⟨b1, b2, b3, b4, b5⟩ := shP_all (fun d => shP_of (n := n) d) h2
    refine ⟨by simp only [PyData.showable, b1], by simp only [PyData.hasDict, b2], by simp only [PyData.depth]; omega, by simp only [PyData.leavesShort, b4], ?_⟩
    simp only [PyData.weight]
    exact Nat.le_trans b5 (Nat.mul_le_mul_right _ h1)
  | n + 1, .tuple xs, ⟨h1, h2⟩ => by
    obtain ⟨b1, b2, b3, b4, b5⟩ := shP_all (fun d => shP_of (n := n) d) h2
    refine ⟨by simp only [PyData.showable, b1], by simp only [PyData.hasDict, b2], by simp only [PyData.depth]; omega, by simp only [PyData.leavesShort, b4], ?_⟩
    simp only [PyData.weight]
    exact Nat.le_trans b5 (Nat.mul_le_mul_right _ h1)
theorem shw_of {d : D} (h : Sh 3 d) : Shw d := by
  obtain ⟨a1, a2, a3, a4, a5⟩ := shP_of d h
  exact ⟨a1, a2, by omega, PyData.shown_fits (by decide) (by decide) a4 (Nat.le_trans a5 (by decide))⟩
theorem Sh.up : ∀ {n m : Nat} {d : D}, n ≤ m → Sh n d → Sh m d
  | _, m, .none, _, _ => by cases m <;> trivial
  | _, m, .bool _, _, _ => by cases m <;> trivial
  | n, m, .int _, _, h => by cases n <;> cases m <;> exact h
  | n, m, .str _, _, h => by cases n <;> cases m <;> exact h
  | 0, _, .dict _, _, h => h.elim
  | _ + 1, _, .dict _, _, h => h.elim
  | 0, _, .list _, _, h => h.elim
  | 0, _, .tuple _, _, h => h.elim
  | n + 1, 0, .list _, k, _ => absurd k (by omega)
  | n + 1, 0, .tuple _, k, _ => absurd k (by omega)
  | n + 1, m + 1, .list _, k, ⟨a, b⟩ => ⟨a, fun x hx => Sh.up (by omega) (b x hx)⟩
  | n + 1, m + 1, .tuple _, k, ⟨a, b⟩ => ⟨a, fun x hx => Sh.up (by omega) (b x hx)⟩
end RR

namespace RR
open PySem PySem.Spec L2
local macro_rules | `(tactic| exists $e) => `(tactic| first | refine onSome_of $e ?_ | refine onSome_of rfl (onSome_of $e ?_) | refine onSome_of rfl (onSome_of rfl (onSome_of $e ?_)) | refine onSome_of rfl (onSome_of rfl (onSome_of rfl (onSome_of $e ?_))) | refine onSome_of rfl (onSome_of rfl (onSome_of rfl (onSome_of rfl (onSome_of $e ?_)))) | refine onSome_of rfl (onSome_of rfl (onSome_of rfl (onSome_of rfl (onSome_of rfl (onSome_of $e ?_))))) | refine onSome_of rfl (onSome_of rfl (onSome_of rfl (onSome_of rfl (onSome_of rfl (onSome_of rfl (onSome_of $e ?_)))))))
def clsIx (c : String) : Int := if c = "NoRound" then 2 else  0
def sp__law_classes (a dd : Addr) (x : Xc) : SpD := fun ws P _ => ws = [.exc a dd x.fs] ∧ (["NoRound"] : List String).contains x.cls = true ∧ P (.own [.int (clsIx x.cls)]) ws
theorem len__law_classes : ∀ a dd x ws Q E, sp__law_classes a dd x ws Q E → ws.length = 1 := by
  rintro a dd x ws Q E ⟨rfl, _⟩
  rfl
def N__law_classes : List Str := ["_law_e", "_law_some", "_law_k"]
def t__law_classes (a dd : Addr) (x : Xc) : TsD :=
  (tSeqD (tSetF 1 (tLstD (tConsF (tIsE a dd x ["NoRound"] 0 "NoRatio") (tConsF (tIsE a dd x ["NoRound"] 0 "NoTurning") (tConsF (tIsE a dd x ["NoRound"] 0 "NoRound") (tConsF (tIsE a dd x ["NoRound"] 0 "NotSmooth") tNilA))))))
  (tSeqD (tSetF 1 (tOp2 gAdd (tVar 1) (tLstD (tConsF (tIsE a dd x ["NoRound"] 0 "NoWedge") (tConsF (tIsE a dd x ["NoRound"] 0 "NoRow") (tConsF (tIsE a dd x ["NoRound"] 0 "NoPlace") (tConsF (tIsE a dd x ["NoRound"] 0 "NoMinus") tNilA)))))))
  (tSeqD (tSetF 1 (tOp2 gAdd (tVar 1) (tLstD (tConsF (tIsE a dd x ["NoRound"] 0 "NoFour") (tConsF (tIsE a dd x ["NoRound"] 0 "NoHeight") (tConsF (tIsE a dd x ["NoRound"] 0 "NoBend") (tConsF (tIsE a dd x ["NoRound"] 0 "NoBody") tNilA)))))))
  (tSeqD (tSetF 1 (tOp2 gAdd (tVar 1) (tLstD (tConsF (tIsE a dd x ["NoRound"] 0 "NoOne") (tConsF (tIsE a dd x ["NoRound"] 0 "NoText") (tConsF (tIsE a dd x ["NoRound"] 0 "Unknown") tNilA))))))
  (tRetD (tLcD (tiR1 (tConsF (tK (.int 15)) tNilA)) (gNameD 2) (tAndT (tTst (tOp2 gIx (tVar 1) (tVar 2))) (tTst (tIsE a dd x ["NoRound"] 0 "ValueError"))) (tVar 2) [2]))))))
theorem classes_NoRound {a dd : Addr} {fs : List (Str × D)} {Q : W → List W → Prop} {E : Xc → List W → Prop} (h : Q (.own [.int 2]) [.exc a dd fs]) : t__law_classes a dd ⟨"NoRound", fs⟩ (endsOf [0] [.exc a dd fs] Q E) (startD N__law_classes [.exc a dd fs]) := by
  have hL : (["NoRound"] : List String).contains "NoRound" = true := rfl
  refine seq_to [some (.exc a dd fs), some (.val (.list [.bool false, .bool false, .bool true, .bool false])), none] (fun K hK => ⟨⟨rfl, rfl, rfl⟩, hL, ⟨⟨rfl, rfl, rfl⟩, hL, ⟨⟨rfl, rfl, rfl⟩, hL, ⟨⟨rfl, rfl, rfl⟩, hL, hK⟩⟩⟩⟩) ?_
  refine seq_to [some (.exc a dd fs), some (.val (.list [.bool false, .bool false, .bool true, .bool false, .bool false, .bool false, .bool false, .bool false])), none] (fun K hK => ⟨⟨rfl, rfl, rfl⟩, hL, ⟨⟨rfl, rfl, rfl⟩, hL, ⟨⟨rfl, rfl, rfl⟩, hL, ⟨⟨rfl, rfl, rfl⟩, hL, ⟨(show 4 + 4 ≤ 1000000 by decide), hK⟩⟩⟩⟩⟩) ?_
  refine seq_to [some (.exc a dd fs), some (.val (.list [.bool false, .bool false, .bool true, .bool false, .bool false, .bool false, .bool false, .bool false, .bool false, .bool false, .bool false, .bool false])), none] (fun K hK => ⟨⟨rfl, rfl, rfl⟩, hL, ⟨⟨rfl, rfl, rfl⟩, hL, ⟨⟨rfl, rfl, rfl⟩, hL, ⟨⟨rfl, rfl, rfl⟩, hL, ⟨(show 8 + 4 ≤ 1000000 by decide), hK⟩⟩⟩⟩⟩) ?_
  refine seq_to [some (.exc a dd fs), some (.val (.list [.bool false, .bool false, .bool true, .bool false, .bool false, .bool false, .bool false, .bool false, .bool false, .bool false, .bool false, .bool false, .bool false, .bool false, .bool false])), none] (fun K hK => ⟨⟨rfl, rfl, rfl⟩, hL, ⟨⟨rfl, rfl, rfl⟩, hL, ⟨⟨rfl, rfl, rfl⟩, hL, ⟨(show 12 + 3 ≤ 1000000 by decide), hK⟩⟩⟩⟩) ?_
  refine ⟨by decide, ?_⟩
  refine lc_go [] (fun K hK => ⟨nO1 rfl, (show 0 < 1000000 by decide), srcN, hK⟩) ?_
  refine lc_go [] (fun K hK => ⟨nO1 rfl, (show 0 < 1000000 by decide), srcN, hK⟩) ?_
  refine lc_go [.int 2] (fun K hK => ⟨nO1 rfl, (show 0 < 1000000 by decide), ⟨rfl, rfl, rfl⟩, hL, srcN, hK⟩) ?_
  refine lc_go [.int 2] (fun K hK => ⟨nO1 rfl, (show 1 < 1000000 by decide), srcN, hK⟩) ?_
  refine lc_go [.int 2] (fun K hK => ⟨nO1 rfl, (show 1 < 1000000 by decide), srcN, hK⟩) ?_
  refine lc_go [.int 2] (fun K hK => ⟨nO1 rfl, (show 1 < 1000000 by decide), srcN, hK⟩) ?_
  refine lc_go [.int 2] (fun K hK => ⟨nO1 rfl, (show 1 < 1000000 by decide), srcN, hK⟩) ?_
  refine lc_go [.int 2] (fun K hK => ⟨nO1 rfl, (show 1 < 1000000 by decide), srcN, hK⟩) ?_
  refine lc_go [.int 2] (fun K hK => ⟨nO1 rfl, (show 1 < 1000000 by decide), srcN, hK⟩) ?_
  refine lc_go [.int 2] (fun K hK => ⟨nO1 rfl, (show 1 < 1000000 by decide), srcN, hK⟩) ?_
  refine lc_go [.int 2] (fun K hK => ⟨nO1 rfl, (show 1 < 1000000 by decide), srcN, hK⟩) ?_
  refine lc_go [.int 2] (fun K hK => ⟨nO1 rfl, (show 1 < 1000000 by decide), srcN, hK⟩) ?_
  refine lc_go [.int 2] (fun K hK => ⟨nO1 rfl, (show 1 < 1000000 by decide), srcN, hK⟩) ?_
  refine lc_go [.int 2] (fun K hK => ⟨nO1 rfl, (show 1 < 1000000 by decide), srcN, hK⟩) ?_
  refine lc_go [.int 2] (fun K hK => ⟨nO1 rfl, (show 1 < 1000000 by decide), srcN, hK⟩) ?_
  exact h
theorem vc__law_classes : ∀ a dd x ws Q E, sp__law_classes a dd x ws Q E → t__law_classes a dd x (endsOf [0] ws Q E) (startD N__law_classes ws) := by
  rintro a dd ⟨c, fs⟩ ws Q E ⟨rfl, hL, h⟩
  have hc : c = "NoRound" := by simpa using hL
  subst hc
  exact classes_NoRound h
def sp__law_led : SpD := fun ws P _ => ∃ a b c d x y : Int, ws = [.val (tt a b c d), .val (pr x y)] ∧ Big a ∧ Big b ∧ Big c ∧ Big d ∧ Big x ∧ Big y ∧ ∀ u v, u = a * x + b * y → v = c * x + d * y → P (.val (pr u v)) ws
theorem len__law_led : ∀ ws Q E, sp__law_led ws Q E → ws.length = 2 := by
  rintro ws Q E ⟨a, b, c, d, x, y, rfl, _⟩
  rfl
def N__law_led : List Str := ["_law_turning_here", "_law_pair", "_law_first", "_law_second"]
def t__law_led : TsD :=
  (tSeqD (tAsgD (tVar 0) (gTupD 2 (gsConsD (gNameD 2) (gsConsD (gNameD 3) gsNilD))))
  (tRetD (tTupD (tConsF (tOp2 gAdd (tOp2 gMul (tOp2 gIx (tVar 2) (tK (.int 0))) (tOp2 gIx (tVar 1) (tK (.int 0)))) (tOp2 gMul (tOp2 gIx (tVar 2) (tK (.int 1))) (tOp2 gIx (tVar 1) (tK (.int 1))))) (tConsF (tOp2 gAdd (tOp2 gMul (tOp2 gIx (tVar 3) (tK (.int 0))) (tOp2 gIx (tVar 1) (tK (.int 0)))) (tOp2 gMul (tOp2 gIx (tVar 3) (tK (.int 1))) (tOp2 gIx (tVar 1) (tK (.int 1))))) tNilA)))))
theorem vc__law_led : ∀ ws Q E, sp__law_led ws Q E → t__law_led (endsOf [] ws Q E) (startD N__law_led ws) := by
  rintro ws Q E ⟨a, b, c, d, x, y, rfl, ha, hb, hc, hd, hx, hy, h⟩
  exact ⟨ha.ok hx, hb.ok hy, hc.ok hx, hd.ok hy, h _ _ rfl rfl⟩
def sp__law_both : SpD := fun ws P _ => ∃ a b c d e f g k : Int, ws = [.val (tt a b c d), .val (tt e f g k)] ∧ Big a ∧ Big b ∧ Big c ∧ Big d ∧ Big e ∧ Big f ∧ Big g ∧ Big k ∧
  ∀ p q r s, p = e * a + f * c → q = e * b + f * d → r = g * a + k * c → s = g * b + k * d → P (.val (tt p q r s)) ws
theorem len__law_both : ∀ ws Q E, sp__law_both ws Q E → ws.length = 2 := by
  rintro ws Q E ⟨a, b, c, d, e, f, g, k, rfl, _⟩
  rfl
def N__law_both : List Str := ["_law_one", "_law_other", "_law_left", "_law_right"]
def t__law_both : TsD :=
  (tSeqD (tSetF 2 (tCallD [] sp__law_led (tConsF (tVar 1) (tConsF (tTupD (tConsF (tOp2 gIx (tOp2 gIx (tVar 0) (tK (.int 0))) (tK (.int 0))) (tConsF (tOp2 gIx (tOp2 gIx (tVar 0) (tK (.int 1))) (tK (.int 0))) tNilA))) tNilA))))
  (tSeqD (tSetF 3 (tCallD [] sp__law_led (tConsF (tVar 1) (tConsF (tTupD (tConsF (tOp2 gIx (tOp2 gIx (tVar 0) (tK (.int 0))) (tK (.int 1))) (tConsF (tOp2 gIx (tOp2 gIx (tVar 0) (tK (.int 1))) (tK (.int 1))) tNilA))) tNilA))))
  (tRetD (tTupD (tConsF (tTupD (tConsF (tOp2 gIx (tVar 2) (tK (.int 0))) (tConsF (tOp2 gIx (tVar 3) (tK (.int 0))) tNilA))) (tConsF (tTupD (tConsF (tOp2 gIx (tVar 2) (tK (.int 1))) (tConsF (tOp2 gIx (tVar 3) (tK (.int 1))) tNilA))) tNilA))))))
theorem vc__law_both : ∀ ws Q E, sp__law_both ws Q E → t__law_both (endsOf [] ws Q E) (startD N__law_both ws) := by
  rintro ws Q E ⟨a, b, c, d, e, f, g, k, rfl, ha, hb, hc, hd, he, hf, hg, hk, h⟩
  refine ⟨e, f, g, k, a, c, rfl, he, hf, hg, hk, ha, hc, fun u v hu hv => ?_⟩
  refine ⟨e, f, g, k, b, d, rfl, he, hf, hg, hk, hb, hd, fun u2 v2 hu2 hv2 => ?_⟩
  exact h _ _ _ _ hu hu2 hv hv2
def sp__law_turning : SpD := fun ws P _ => ∃ b : List D, ws = [.own b] ∧ bagOk b ∧ ∀ b' d, bagOk b' → Tn 20 d → P (.val d) [.own b']
theorem len__law_turning : ∀ ws Q E, sp__law_turning ws Q E → ws.length = 1 := by
  rintro ws Q E ⟨b, rfl, _⟩
  rfl
def N__law_turning : List Str := ["_law_bag_here", "_law_found", "_law_k", "_law_by", "_law_some"]
def t__law_turning : TsD :=
  (tSeqD (tSetD 1 (tTupD (tConsF (tTupD (tConsF (tK (.int 1)) (tConsF (tK (.int 0)) tNilA))) (tConsF (tTupD (tConsF (tK (.int 0)) (tConsF (tK (.int 1)) tNilA))) tNilA))))
  (tSeqD (tForD (tiR1 (tConsF (tCallD [0] sp__law_digit (tConsV (tVar 0) (tConsF (tK (.int 4)) tNilA))) tNilA)) (gNameD 2) (tSeqD (tSetD 3 (tOp2 gSub (tCallD [0] sp__law_digit (tConsV (tVar 0) (tConsF (tK (.int 7)) tNilA))) (tK (.int 3))))
  (tSeqD (tSetF 4 (tLstD (tConsF (tTupD (tConsF (tTupD (tConsF (tK (.int 1)) (tConsF (tVar 3) tNilA))) (tConsF (tTupD (tConsF (tK (.int 0)) (tConsF (tK (.int 1)) tNilA))) tNilA))) (tConsF (tTupD (tConsF (tTupD (tConsF (tK (.int 1)) (tConsF (tK (.int 0)) tNilA))) (tConsF (tTupD (tConsF (tVar 3) (tConsF (tK (.int 1)) tNilA))) tNilA))) (tConsF (tTupD (tConsF (tTupD (tConsF (tK (.int 0)) (tConsF (tK (.int 1)) tNilA))) (tConsF (tTupD (tConsF (tK (.int 1)) (tConsF (tK (.int 0)) tNilA))) tNilA))) (tConsF (tTupD (tConsF (tTupD (tConsF (tK (.int 0)) (tConsF (tOp1 gNeg (tK (.int 1))) tNilA))) (tConsF (tTupD (tConsF (tK (.int 1)) (tConsF (tK (.int 0)) tNilA))) tNilA))) tNilA))))))
  (tSetF 1 (tCallD [] sp__law_both (tConsF (tVar 1) (tConsF (tOp2 gIx (tVar 4) (tCallD [0] sp__law_digit (tConsV (tVar 0) (tConsF (tK (.int 4)) tNilA)))) tNilA)))))))
  (tRetD (tVar 1))))
theorem vc__law_turning : ∀ ws Q E, sp__law_turning ws Q E → t__law_turning (endsOf [0] ws Q E) (startD N__law_turning ws) := by
  rintro ws Q E ⟨b, rfl, hb, h⟩
  refine seq_to [some (.own b), some (.val (tt 1 0 0 1)), none, none, none] (fun K hK => hK) ?_
  refine seq_cut (fun ρ => ∃ b d, bagOk b ∧ Tn 20 d ∧ ∃ x y z, ρ = [some (.own b), some (.val d), x, y, z]) (fun K hK => ?_) ?_
  · refine ⟨_, _, rfl, hb, by decide, by decide, fun b r hb r0 r1 => ⟨by omega, ?_⟩⟩
    refine loop_rng (fun i ρ => 0 ≤ i ∧ i ≤ 3 ∧ ∃ b d, bagOk b ∧ Tn (1 + 4 * i.toNat) d ∧ ∃ x y z, ρ = [some (.own b), some (.val d), x, y, z]) r ?_ ?_ r.toNat 0 _ (by omega) ⟨by omega, by omega, _, _, hb, tn_one (by decide), _, _, _, rfl⟩
    · rintro i ρ hi ⟨i0, i3, b, d, hb, hd, x, y, z, rfl⟩ k hk
      refine seq_cut (fun ρ => ∃ b by_, bagOk b ∧ Bd 3 by_ ∧ ρ = [some (.own b), some (.val d), some (.val (.int i)), some (.val (.int by_)), z]) (fun K hK => ?_) ?_
      · refine ⟨_, _, rfl, hb, by decide, by decide, fun b r hb r0 r1 => hK _ ⟨_, _, hb, Bd.of_le (b := 7) (by omega) (by decide), rfl⟩⟩
      rintro ρ ⟨b, by_, hb, hby, rfl⟩
      refine seq_to [some (.own b), some (.val d), some (.val (.int i)), some (.val (.int by_)), some (.val (.list [tt 1 by_ 0 1, tt 1 0 by_ 1, tt 0 1 1 0, tt 0 (-1) 1 0]))] (fun K hK => hK) ?_
      have fin : ∀ b d' , bagOk b → Tn (3 + (1 + 4 * i.toNat) + 1) d' → k [some (.own b), some (.val d'), some (.val (.int i)), some (.val (.int by_)), some (.val (.list [tt 1 by_ 0 1, tt 1 0 by_ 1, tt 0 1 1 0, tt 0 (-1) 1 0]))] := fun b d' hb hd' =>
        hk _ ⟨by omega, by omega, b, d', hb, hd'.mono (by omega), _, _, _, rfl⟩
      obtain ⟨a1, b1, c1, e1, rfl, h1, ha, hb1, hc, he⟩ := hd
      have w : ∀ {x : Int}, Bd (1 + 4 * i.toNat) x → Big x := fun q => q.mono (by omega)
      have w1 : ∀ {x : Int}, Bd 3 x → Big x := fun q => q.mono (by decide)
      have o0 : Bd 3 0 := by decide
      have o1 : Bd 3 1 := by decide
      have o2 : Bd 3 (-1) := by decide
      refine ⟨_, _, rfl, hb, by decide, by decide, fun b r hb r0 r1 => ?_⟩
      rcases four r0 r1 with rfl | rfl | rfl | rfl
      · exact ⟨a1, b1, c1, e1, 1, by_, 0, 1, rfl, w ha, w hb1, w hc, w he, w1 o1, w1 hby, w1 o0, w1 o1, fun p q r s hp hq hr hs => ⟨srcN, fin _ _ hb (tn_mul h1 ha hb1 hc he (tn_up (by decide) hby) hp hq hr hs)⟩⟩
      · exact ⟨a1, b1, c1, e1, 1, 0, by_, 1, rfl, w ha, w hb1, w hc, w he, w1 o1, w1 o0, w1 hby, w1 o1, fun p q r s hp hq hr hs => ⟨srcN, fin _ _ hb (tn_mul h1 ha hb1 hc he (tn_low (by decide) hby) hp hq hr hs)⟩⟩
      · exact ⟨a1, b1, c1, e1, 0, 1, 1, 0, rfl, w ha, w hb1, w hc, w he, w1 o0, w1 o1, w1 o1, w1 o0, fun p q r s hp hq hr hs => ⟨srcN, fin _ _ hb (tn_mul h1 ha hb1 hc he (tn_swap (by decide)) hp hq hr hs)⟩⟩
      · exact ⟨a1, b1, c1, e1, 0, -1, 1, 0, rfl, w ha, w hb1, w hc, w he, w1 o0, w1 o2, w1 o1, w1 o0, fun p q r s hp hq hr hs => ⟨srcN, fin _ _ hb (tn_mul h1 ha hb1 hc he (tn_quart (by decide)) hp hq hr hs)⟩⟩
    · rintro ρ ⟨_, i3, b, d, hb, hd, x, y, z, rfl⟩
      exact hK _ ⟨_, _, hb, hd.mono (by omega), _, _, _, rfl⟩
  · rintro ρ ⟨b, d, hb, hd, x, y, z, rfl⟩
    exact h _ _ hb hd
/-! ### the law's smooth rounds -/
def sp__law_cross : SpD := fun ws P _ => ∃ p q : Pt, ws = [.val (pd p), .val (pd q)] ∧ Big p.1 ∧ Big p.2 ∧ Big q.1 ∧ Big q.2 ∧ P (.val (.int (cr p q))) ws
theorem len__law_cross : ∀ ws Q E, sp__law_cross ws Q E → ws.length = 2 := by
  rintro ws Q E ⟨p, q, rfl, _⟩
  rfl
def N__law_cross : List Str := ["_law_one", "_law_other"]
def t__law_cross : TsD :=
  (tRetD (tOp2 gSub (tOp2 gMul (tOp2 gIx (tVar 0) (tK (.int 0))) (tOp2 gIx (tVar 1) (tK (.int 1)))) (tOp2 gMul (tOp2 gIx (tVar 0) (tK (.int 1))) (tOp2 gIx (tVar 1) (tK (.int 0))))))
theorem vc__law_cross : ∀ ws Q E, sp__law_cross ws Q E → t__law_cross (endsOf [] ws Q E) (startD N__law_cross ws) := by
  rintro ws Q E ⟨p, q, rfl, h1, h2, h3, h4, h⟩
  exact ⟨h1.ok h4, h2.ok h3, h⟩
def sp__law_sum : SpD := fun ws P _ => ∃ p q : Pt, ws = [.val (pd p), .val (pd q)] ∧ P (.val (pd (sm p q))) ws
theorem len__law_sum : ∀ ws Q E, sp__law_sum ws Q E → ws.length = 2 := by
  rintro ws Q E ⟨p, q, rfl, _⟩
  rfl
def N__law_sum : List Str := ["_law_one", "_law_other"]
def t__law_sum : TsD :=
  (tRetD (tTupD (tConsF (tOp2 gAdd (tOp2 gIx (tVar 0) (tK (.int 0))) (tOp2 gIx (tVar 1) (tK (.int 0)))) (tConsF (tOp2 gAdd (tOp2 gIx (tVar 0) (tK (.int 1))) (tOp2 gIx (tVar 1) (tK (.int 1)))) tNilA))))
theorem vc__law_sum : ∀ ws Q E, sp__law_sum ws Q E → t__law_sum (endsOf [] ws Q E) (startD N__law_sum ws) := by
  rintro ws Q E ⟨p, q, rfl, h⟩
  exact h
def sp__law_near : SpD := fun ws P _ => ∃ p : Pt, ws = [.val (pd p)] ∧ P (.val (.bool (near p))) ws
theorem len__law_near : ∀ ws Q E, sp__law_near ws Q E → ws.length = 1 := by
  rintro ws Q E ⟨p, rfl, _⟩
  rfl
def N__law_near : List Str := ["_law_pair"]
def t__law_near : TsD :=
  (tRetD (tAndE (tOp2 gLe (tBlt gAbs (tConsV (tOp2 gIx (tVar 0) (tK (.int 0))) tNilA)) (tK (.int 200))) (tOp2 gLe (tBlt gAbs (tConsV (tOp2 gIx (tVar 0) (tK (.int 1))) tNilA)) (tK (.int 200)))))
theorem vc__law_near : ∀ ws Q E, sp__law_near ws Q E → t__law_near (endsOf [] ws Q E) (startD N__law_near ws) := by
  rintro ws Q E ⟨p, rfl, h⟩
  unfold near at h
  refine brD (fun h1 => ?_) (fun h1 => ?_)
  · rw [decide_eq_true h1, Bool.true_and] at h
    exact h
  · rw [decide_eq_false h1, Bool.false_and] at h
    exact h
def sp__law_brought : SpD := fun ws P _ => ∃ (l : List Pt) (d : D) (s : Int), ws = [.val (.list (prs l)), .val d, .val (.int s)] ∧ Rnd l ∧ Tn 20 d ∧ 0 ≤ s ∧ s < l.length ∧ ∀ l', Rnd l' → P (.own (prs l')) ws
theorem len__law_brought : ∀ ws Q E, sp__law_brought ws Q E → ws.length = 3 := by
  rintro ws Q E ⟨l, d, s, rfl, _⟩
  rfl
def N__law_brought : List Str := ["_law_rays", "_law_turning_here", "_law_start", "_law_led_here", "_law_ray"]
def t__law_brought : TsD :=
  (tSeqD (tSetF 3 (tLcD (tiL [] (tVar 0)) (gNameD 4) tYesD (tCallD [] sp__law_led (tConsF (tVar 1) (tConsF (tVar 4) tNilA))) [4]))
  (tSeqD (tIfD (tNotT (tTst (tBlt gAll (tConsV (tLcD (tiL [] (tVar 3)) (gNameD 4) tYesD (tCallD [] sp__law_near (tConsF (tVar 4) tNilA)) [4]) tNilA)))) (tSetF 3 (tBlt gList (tConsV (tVar 0) tNilA))) (tIfD (tTst (tOp2 gLt (tCallD [] sp__law_cross (tConsF (tOp2 gIx (tVar 3) (tK (.int 0))) (tConsF (tOp2 gIx (tVar 3) (tK (.int 1))) tNilA))) (tK (.int 0)))) (tSetF 3 (tOp1 gRevL (tVar 3))) tNextD))
  (tRetD (tOp2 gAdd (tSlD (tVar 3) (tPt (tVar 2)) tNoPt) (tSlD (tVar 3) tNoPt (tPt (tVar 2)))))))
theorem vc__law_brought : ∀ ws Q E, sp__law_brought ws Q E → t__law_brought (endsOf [] ws Q E) (startD N__law_brought ws) := by
  rintro ws Q E ⟨l, _, s, rfl, hl, ⟨a, b, c, e, rfl, hd, ha, hb, hc, he⟩, s0, s1, h⟩
  have w : ∀ {x : Int}, Bd 20 x → Big x := fun q => q.mono (by decide)
  have w8 : ∀ {x : Int}, Bd 8 x → Big x := fun q => q.mono (by decide)
  have hlen : l.length ≤ 1000000 := by have := hl.2.2.2.2; omega
  refine seq_to [some (.val (.list (prs l))), some (.val (tt a b c e)), some (.val (.int s)), some (.val (.list (prs (l.map (ld a b c e))))), none] (fun k hk => ?_) ?_
  · refine lc_pure pd (fun p => pd (ld a b c e p)) l hlen (nO1 rfl) ?_ fun x hx acc k' hk' => ?_
    · have e1 : l.map (fun p => pd (ld a b c e p)) = prs (l.map (ld a b c e)) := by
        show _ = (l.map _).map pd
        rw [List.map_map]
        rfl
      rw [e1]
      exact hk
    · obtain ⟨b1, b2⟩ := near_big (hl.2.1 x hx)
      exact ⟨a, b, c, e, x.1, x.2, rfl, w ha, w hb, w hc, w he, w8 b1, w8 b2, fun u v hu hv => ⟨srcN, by rw [hu, hv]; exact hk'⟩⟩
  refine seq_cut (fun ρ => ∃ l', Rnd l' ∧ l'.length = l.length ∧ ∃ z, ρ = [some (.val (.list (prs l))), some (.val (tt a b c e)), some (.val (.int s)), some (.val (.list (prs l'))), z]) (fun k hk => ?_) ?_
  · have hL : (l.map (ld a b c e)).length ≤ 1000000 := by rw [List.length_map]; exact hlen
    refine lc_pure pd (fun p => .bool (near p)) (l.map (ld a b c e)) hL (nO1 rfl) ⟨(l.map (ld a b c e)).map near, congrArg (fun x => [PyData.list x]) (show (l.map (ld a b c e)).map (fun p => PyData.bool (near p)) = ((l.map (ld a b c e)).map near).map PyData.bool from (List.map_map (g := PyData.bool) (f := near) (l := l.map (ld a b c e))).symm), ?_⟩ fun x hx acc k' hk' => ⟨x, rfl, srcN, hk'⟩
    refine brB (fun h1 => ?_) (fun h1 => ?_)
    · exact hk _ ⟨l, hl, rfl, _, rfl⟩
    · have h1 : ((l.map (ld a b c e)).map near).all id = true := by simpa using h1
      have hN : Near (l.map (ld a b c e)) := fun p hp => by
        have := List.all_eq_true.mp h1 (near p) (List.mem_map_of_mem hp)
        simpa using this
      obtain ⟨q0, q1, r, rfl⟩ : ∃ q0 q1 r, l = q0 :: q1 :: r := by
        have := hl.2.2.2.1
        match l, this with
        | q0 :: q1 :: r, _ => exact ⟨_, _, _, rfl⟩
      have c1 : cr (ld a b c e q0) (ld a b c e q1) = a * e - b * c := by
        rw [cr_ld, show cr q0 q1 = 1 from hl.1.1, Int.mul_one]
      obtain ⟨b1, b2⟩ := near_big (hN (ld a b c e q0) (by simp))
      obtain ⟨b3, b4⟩ := near_big (hN (ld a b c e q1) (by simp))
      refine onSome_of (atI_nat (j := 0) rfl) (onSome_of rfl (onSome_of (atI_nat (j := 1) rfl) (onSome_of rfl ?_)))
      refine ⟨ld a b c e q0, ld a b c e q1, rfl, w8 b1, w8 b2, w8 b3, w8 b4, ?_⟩
      refine brD (fun h2 => ?_) (fun h2 => ?_)
      · have hd1 : a * e - b * c = -1 := by rw [c1] at h2; omega
        have e3 : (prs ((q0 :: q1 :: r).map (ld a b c e))).reverse = prs ((q0 :: q1 :: r).map (ld a b c e)).reverse := (List.map_reverse ..).symm
        exact hk _ ⟨((q0 :: q1 :: r).map (ld a b c e)).reverse, hl.led_rev hd1 hN, by simp, none, by rw [← e3]; rfl⟩
      · have hd1 : a * e - b * c = 1 := by rw [c1] at h2; omega
        exact hk _ ⟨_, hl.led hd1 hN, by simp, none, rfl⟩
  · rintro ρ ⟨l', hl', he', z, rfl⟩
    refine ⟨?_, ?_⟩
    · show (cutD (prs l') (some s) none).length + (cutD (prs l') none (some s)).length ≤ 1000000
      rw [rot_len s0]
      have := hl'.2.2.2.2
      omega
    · show Q (.own (cutD (prs l') (some s) none ++ cutD (prs l') none (some s))) _
      rw [rot_own s0]
      exact h _ (hl'.rot _)
def sp__law_smooth : SpD := fun ws P _ => ∃ b : List D, ws = [.own b] ∧ bagOk b ∧ ∀ b' l, bagOk b' → Rnd l → P (.own (prs l)) [.own b']
theorem len__law_smooth : ∀ ws Q E, sp__law_smooth ws Q E → ws.length = 1 := by
  rintro ws Q E ⟨b, rfl, _⟩
  rfl
def N__law_smooth : List Str := ["_law_bag_here", "_law_steep", "_law_rays", "_law_k", "_law_at", "_law_ray", "_law_start"]
def t__law_smooth : TsD :=
  (tSeqD (tSetF 1 (tCallD [0] sp__law_digit (tConsV (tVar 0) (tConsF (tOp2 gIx (tLstD (tConsF (tK (.int 4)) (tConsF (tK (.int 4)) (tConsF (tK (.int 4)) (tConsF (tK (.int 4)) (tConsF (tK (.int 4)) (tConsF (tK (.int 4)) (tConsF (tK (.int 12)) (tConsF (tK (.int 201)) tNilA))))))))) (tCallD [0] sp__law_digit (tConsV (tVar 0) (tConsF (tK (.int 8)) tNilA)))) tNilA))))
  (tSeqD (tSetD 2 (tOp2 gIx (tLstD (tConsF (tLstD (tConsF (tTupD (tConsF (tK (.int 1)) (tConsF (tK (.int 0)) tNilA))) (tConsF (tTupD (tConsF (tK (.int 0)) (tConsF (tK (.int 1)) tNilA))) (tConsF (tTupD (tConsF (tOp1 gNeg (tK (.int 1))) (tConsF (tOp1 gNeg (tK (.int 1))) tNilA))) tNilA)))) (tConsF (tLstD (tConsF (tTupD (tConsF (tK (.int 1)) (tConsF (tK (.int 0)) tNilA))) (tConsF (tTupD (tConsF (tK (.int 0)) (tConsF (tK (.int 1)) tNilA))) (tConsF (tTupD (tConsF (tOp1 gNeg (tK (.int 1))) (tConsF (tVar 1) tNilA))) (tConsF (tTupD (tConsF (tK (.int 0)) (tConsF (tOp1 gNeg (tK (.int 1))) tNilA))) tNilA))))) tNilA))) (tCallD [0] sp__law_digit (tConsV (tVar 0) (tConsF (tK (.int 2)) tNilA)))))
  (tSeqD (tForD (tiR1 (tConsF (tCallD [0] sp__law_digit (tConsV (tVar 0) (tConsF (tOp2 gIx (tLstD (tConsF (tK (.int 5)) (tConsF (tK (.int 5)) (tConsF (tK (.int 12)) (tConsF (tK (.int 5)) tNilA))))) (tCallD [0] sp__law_digit (tConsV (tVar 0) (tConsF (tK (.int 4)) tNilA)))) tNilA))) tNilA)) (gNameD 3) (tSeqD (tSetF 4 (tCallD [0] sp__law_digit (tConsV (tVar 0) (tConsF (tBlt gLen (tConsV (tVar 2) tNilA)) tNilA))))
  (tSeqD (tSetF 5 (tCallD [] sp__law_sum (tConsF (tOp2 gIx (tVar 2) (tVar 4)) (tConsF (tOp2 gIx (tVar 2) (tOp2 gMod (tOp2 gAdd (tVar 4) (tK (.int 1))) (tBlt gLen (tConsV (tVar 2) tNilA)))) tNilA))))
  (tIfD (tAndT (tTst (tCallD [] sp__law_near (tConsF (tVar 5) tNilA))) (tTst (tOp2 gLt (tBlt gLen (tConsV (tVar 2) tNilA)) (tK (.int 14))))) (tSetF 2 (tOp2 gAdd (tOp2 gAdd (tSlD (tVar 2) tNoPt (tPt (tOp2 gAdd (tVar 4) (tK (.int 1))))) (tLstD (tConsF (tVar 5) tNilA))) (tSlD (tVar 2) (tPt (tOp2 gAdd (tVar 4) (tK (.int 1)))) tNoPt))) tNextD))))
  (tSeqD (tSetF 6 (tCallD [0] sp__law_digit (tConsV (tVar 0) (tConsF (tBlt gLen (tConsV (tVar 2) tNilA)) tNilA))))
  (tRetD (tCallD [] sp__law_brought (tConsF (tVar 2) (tConsF (tCallD [0] sp__law_turning (tConsV (tVar 0) tNilA)) (tConsF (tVar 6) tNilA)))))))))
theorem vc__law_smooth : ∀ ws Q E, sp__law_smooth ws Q E → t__law_smooth (endsOf [0] ws Q E) (startD N__law_smooth ws) := by
  rintro ws Q E ⟨b0, rfl, hb, h⟩
  refine seq_cut (fun ρ => ∃ b s, bagOk b ∧ 0 ≤ s ∧ s ≤ 200 ∧ ρ = [some (.own b), some (.val (.int s)), none, none, none, none, none]) (fun k hk => ?_) ?_
  · refine ⟨_, _, rfl, hb, by decide, by decide, fun b r hb r0 r1 => ?_⟩
    obtain ⟨m, hm, e⟩ := pickI (ns := [4, 4, 4, 4, 4, 4, 12, 201]) (p := fun m => 0 < m ∧ m ≤ 201) r0 r1 (by decide)
    exact onSome_of rfl (onSome_of rfl (onSome_of e ⟨_, m, rfl, hb, hm.1, log_le hm.1 hm.2 (by decide), fun b s hb s0 s1 => hk _ ⟨b, s, hb, s0, by omega, rfl⟩⟩))
  rintro ρ ⟨b, s, hb, s0, s1, rfl⟩
  refine seq_cut (fun ρ => ∃ b l, bagOk b ∧ Rnd l ∧ ρ = [some (.own b), some (.val (.int s)), some (.val (.list (prs l))), none, none, none, none]) (fun k hk => ?_) ?_
  · refine ⟨_, _, rfl, hb, by decide, by decide, fun b r hb r0 r1 => ?_⟩
    have : r = 0 ∨ r = 1 := by omega
    rcases this with rfl | rfl
    · exact hk _ ⟨b, _, hb, rnd_three, rfl⟩
    · exact hk _ ⟨b, _, hb, rnd_four s0 s1, rfl⟩
  rintro ρ ⟨b, l, hb, hl, rfl⟩
  refine seq_cut (fun ρ => ∃ b l x y z, bagOk b ∧ Rnd l ∧ ρ = [some (.own b), some (.val (.int s)), some (.val (.list (prs l))), x, y, z, none]) (fun k hk => ?_) ?_
  · refine ⟨_, _, rfl, hb, by decide, by decide, fun b r hb r0 r1 => ?_⟩
    obtain ⟨m, hm, e⟩ := pickI (ns := [5, 5, 12, 5]) (p := fun m => 0 < m ∧ m ≤ 12) r0 r1 (by decide)
    refine onSome_of rfl (onSome_of rfl (onSome_of e ⟨_, m, rfl, hb, hm.1, log_le hm.1 hm.2 (by decide), fun b n hb n0 n1 => ⟨by omega, ?_⟩⟩))
    refine loop_rng (fun i ρ => 0 ≤ i ∧ ∃ b l x y z, bagOk b ∧ Rnd l ∧ ρ = [some (.own b), some (.val (.int s)), some (.val (.list (prs l))), x, y, z, none]) n ?_ ?_ n.toNat 0 _ (by omega) ⟨by omega, b, l, _, _, _, hb, hl, rfl⟩
    · rintro i ρ hi ⟨i0, b, l, x, y, z, hb, hl, rfl⟩ k' hk'
      obtain ⟨m0, m1⟩ := len_ok hl.2.2
      refine seq_cut (fun ρ => ∃ (b : List D) (j : Nat), bagOk b ∧ j < l.length ∧ ρ = [some (.own b), some (.val (.int s)), some (.val (.list (prs l))), some (.val (.int i)), some (.val (.int j)), z, none]) (fun K hK => ?_) ?_
      · exact ⟨_, _, rfl, hb, m0, m1, fun b r hb r0 r1 => hK _ ⟨b, r.toNat, hb, by rw [List.length_map] at r1; omega, by rw [Int.toNat_of_nonneg r0]; rfl⟩⟩
      rintro ρ ⟨b, j, hb, hj, rfl⟩
      have hm : (j + 1) % l.length < l.length := Nat.mod_lt _ (by omega)
      refine seq_to [some (.own b), some (.val (.int s)), some (.val (.list (prs l))), some (.val (.int i)), some (.val (.int j)), some (.val (pd (sm l[j] l[(j + 1) % l.length]))), none] (fun K hK => ?_) ?_
      · have hlen : (((prs l).length : Nat) : Int) ≠ 0 := by omega
        refine onSome_of (at_prs hj) (onSome_of rfl ⟨hlen, ?_⟩)
        rw [mod_len (by omega)]
        exact onSome_of rfl (onSome_of rfl (onSome_of (at_prs hm) (onSome_of rfl ⟨l[j], l[(j + 1) % l.length], rfl, hK⟩)))
      · have hcut := put_own (l := l) (j := j) (p := sm l[j] l[(j + 1) % l.length])
        have hc1 := put_len1 (l := l) (j := j) (p := sm l[j] l[(j + 1) % l.length]) (by have := hl.2.2.2.2; omega)
        have hc2 := put_len2 (l := l) (j := j) (p := sm l[j] l[(j + 1) % l.length]) (by have := hl.2.2.2.2; omega)
        have done : ∀ (l2 : List Pt) (y : Option W), Rnd l2 → k' [some (.own b), some (.val (.int s)), some (.val (.list (prs l2))), some (.val (.int i)), some (.val (.int j)), y, none] := fun l2 y h2 => hk' _ ⟨by omega, b, l2, _, _, _, hb, h2, rfl⟩
        refine ⟨_, rfl, brB (fun h1 => ?_) (fun h1 => ⟨srcN, done _ _ hl⟩)⟩
        refine brD (fun h2 => ⟨hc1, hc2, srcN, ?_⟩) (fun h2 => ⟨srcN, done _ _ hl⟩)
        have := done _ (some (.val (pd (sm l[j] l[(j + 1) % l.length])))) (rnd_put hl hj hm h1 (by rw [List.length_map] at h2; omega))
        rw [← hcut] at this
        exact this
    · rintro ρ ⟨_, b, l, x, y, z, hb, hl, rfl⟩
      exact hk _ ⟨b, l, x, y, z, hb, hl, rfl⟩
  rintro ρ ⟨b, l, x, y, z, hb, hl, rfl⟩
  obtain ⟨m0, m1⟩ := len_ok hl.2.2
  refine ⟨_, _, rfl, hb, m0, m1, fun b j hb j0 j1 => ?_⟩
  exact ⟨_, rfl, hb, fun b d hb hd => ⟨l, d, j, rfl, hl, hd, j0, by rw [List.length_map] at j1; exact j1, fun l' hl' => h _ _ hb hl'⟩⟩
/-! ### what the law asks of a thing as a round -/
def fltD (d : D) : D := match flt d with
  | none => .none
  | some (c, i) => .tuple [.str c, .int (i : Nat)]
def sp__law_whole : SpD := sp_is_whole
theorem len__law_whole : ∀ ws Q E, sp__law_whole ws Q E → ws.length = 1 := len_is_whole
def N__law_whole : List Str := ["_law_thing"]
def t__law_whole : TsD :=
  (tRetD (tAndE (tOp1 (gIsI "int") (tVar 0)) (tNotE (tOp1 (gIsI "bool") (tVar 0)))))
theorem vc__law_whole : ∀ ws Q E, sp__law_whole ws Q E → t__law_whole (endsOf [] ws Q E) (startD N__law_whole ws) := vc_is_whole
def sp__law_looked : SpD := fun ws P _ => ∃ d : D, ws = [.val d] ∧ okD d ∧ P (.val (fltD d)) ws
theorem len__law_looked : ∀ ws Q E, sp__law_looked ws Q E → ws.length = 1 := by
  rintro ws Q E ⟨d, rfl, _⟩
  rfl
def N__law_looked : List Str := ["_law_thing", "_law_found", "_law_e"]
def t__law_looked : TsD :=
  (tSeqD (tTryD 2 ["NoRound"] (tSetF 1 (tCallD [] sp_look_round (tConsF (tVar 0) tNilA))) (fun a dd x => (tSeqD (tIfD (tOrT (tTst (tOp2 gNe (tCallD [0] (sp__law_classes a dd x) (tConsV (tVar 2) tNilA)) (tLstD (tConsF (tK (.int 2)) tNilA)))) (tOrT (tNotT (tTst (tOp1 (gIsI "str") (tFldE a dd x "NoRound" 2 "where")))) (tNotT (tTst (tCallD [] sp__law_whole (tConsF (tFldE a dd x "NoRound" 2 "at") tNilA)))))) (tRetD (tK (.str "another refusal"))) tNextD)
  (tRetD (tTupD (tConsF (tFldE a dd x "NoRound" 2 "where") (tConsF (tFldE a dd x "NoRound" 2 "at") tNilA)))))))
  (tSeqD (tIfD (tTst (tOp2 gNotN (tVar 1) (tK .none))) (tRetD (tK (.str "something"))) tNextD)
  (tRetD (tK .none))))
theorem vc__law_looked : ∀ ws Q E, sp__law_looked ws Q E → t__law_looked (endsOf [] ws Q E) (startD N__law_looked ws) := by
  rintro ws Q E ⟨d, rfl, ok, h⟩
  refine ⟨d, rfl, ok, fun e => ?_, fun c i e => ⟨rfl, fun a dd => ?_⟩⟩
  · unfold fltD at h
    rw [e] at h
    exact h
  · unfold fltD at h
    rw [e] at h
    have e1 : List.lookup (Str.ofString "where") [(Str.ofString "at", PyData.int (i : Nat)), (Str.ofString "where", PyData.str c)] = some (.str c) := rfl
    have e2 : List.lookup (Str.ofString "at") [(Str.ofString "at", PyData.int (i : Nat)), (Str.ofString "where", PyData.str c)] = some (.int (i : Nat)) := rfl
    refine seq_do ⟨rfl, rfl, rfl, rfl, ?_⟩
    refine ⟨⟨rfl, rfl, rfl⟩, rfl, onSome_of e1 ?_⟩
    refine ⟨⟨rfl, rfl, rfl⟩, rfl, onSome_of e2 ⟨_, rfl, ?_⟩⟩
    refine ⟨⟨rfl, rfl, rfl⟩, rfl, onSome_of e1 ?_⟩
    exact ⟨⟨rfl, rfl, rfl⟩, rfl, onSome_of e2 h⟩
/-! ### the fault that the law finds -/
def sp__law_straight : SpD := fun ws P _ => ∃ x y : Int, ws = [.val (pr x y)] ∧ Bd 5000 x ∧ Bd 5000 y ∧ (x ≠ 0 ∨ y ≠ 0) ∧ P (.val (pr (x / (Int.gcd x y : Nat)) (y / (Int.gcd x y : Nat)))) ws
theorem len__law_straight : ∀ ws Q E, sp__law_straight ws Q E → ws.length = 1 := by
  rintro ws Q E ⟨x, y, rfl, _⟩
  rfl
def N__law_straight : List Str := ["_law_pair", "_law_one", "_law_other"]
def t__law_straight : TsD :=
  (tSeqD (tParD 1 2 (tConsF (tBlt gAbs (tConsV (tOp2 gIx (tVar 0) (tK (.int 0))) tNilA)) (tConsF (tBlt gAbs (tConsV (tOp2 gIx (tVar 0) (tK (.int 1))) tNilA)) tNilA)))
  (tSeqD (tWhileD (tTst (tOp2 gGt (tVar 2) (tK (.int 0)))) (tParD 1 2 (tConsF (tVar 2) (tConsF (tOp2 gMod (tVar 1) (tVar 2)) tNilA))))
  (tRetD (tTupD (tConsF (tOp2 gDiv (tOp2 gIx (tVar 0) (tK (.int 0))) (tVar 1)) (tConsF (tOp2 gDiv (tOp2 gIx (tVar 0) (tK (.int 1))) (tVar 1)) tNilA))))))
theorem vc__law_straight : ∀ ws Q E, sp__law_straight ws Q E → t__law_straight (endsOf [] ws Q E) (startD N__law_straight ws) := by
  rintro ws Q E ⟨a, b, rfl, ha, hb, h0, h⟩
  refine seq_to [some (.val (pr a b)), some (.val (.int (a.natAbs : Int))), some (.val (.int (b.natAbs : Int)))] (fun k hk => hk) ?_
  refine seq_to [some (.val (pr a b)), some (.val (.int (Int.gcd a b : Nat))), some (.val (.int 0))] (fun k hk => ?_) ?_
  · refine ⟨fun n ρ => ∃ x y : Int, ρ = [some (.val (pr a b)), some (.val (.int x)), some (.val (.int y))] ∧ 0 ≤ x ∧ 0 ≤ y ∧ Int.gcd x y = Int.gcd a b ∧ n = y.toNat, ⟨_, _, _, rfl, by omega, by omega, by simp [Int.gcd], rfl⟩, ?_⟩
    rintro n ρ ⟨x, y, rfl, hx, hy, hg, rfl⟩
    refine brD (fun h0 => ?_) (fun h0 => ?_)
    · refine ⟨by omega, ?_⟩
      have h1 := Int.emod_nonneg x (show y ≠ 0 by omega)
      have h2 := Int.emod_lt_of_pos x h0
      rw [fmod_pos h0]
      exact ⟨_, by omega, _, _, rfl, hy, h1, by rw [gcd_step hx h0, hg], rfl⟩
    · have e : y = 0 := by omega
      subst e
      have e2 : x = (Int.gcd a b : Nat) := by rw [← hg]; simp; omega
      rw [e2]
      exact hk
  have g0 : 0 < Int.gcd a b := Nat.pos_of_ne_zero fun z => by
    have := Int.gcd_eq_zero_iff.mp z
    rcases h0 with h | h
    · exact h this.1
    · exact h this.2
  have bg := gcd_bd2 ha hb
  refine ⟨divOk_bd (by omega) bg (by decide), divOk_bd (by omega) bg (by decide), ?_⟩
  rw [fdiv_pos (by omega), fdiv_pos (by omega)]
  exact h
def sp__law_is_ray : SpD := fun ws P _ => ∃ d, ws = [.val d] ∧ (∀ a b, d = pr a b → Bd 5000 a ∧ Bd 5000 b) ∧ P (.val (.bool (rayB d))) ws
theorem len__law_is_ray : ∀ ws Q E, sp__law_is_ray ws Q E → ws.length = 1 := by
  rintro ws Q E ⟨d, rfl, _⟩
  rfl
def N__law_is_ray : List Str := ["_law_thing"]
def t__law_is_ray : TsD :=
  (tSeqD (tIfD (tOrT (tNotT (tTst (tOp1 (gIsI "tuple") (tVar 0)))) (tOrT (tTst (tOp2 gNe (tBlt gLen (tConsV (tVar 0) tNilA)) (tK (.int 2)))) (tOrT (tNotT (tTst (tCallD [] sp__law_whole (tConsF (tOp2 gIx (tVar 0) (tK (.int 0))) tNilA)))) (tNotT (tTst (tCallD [] sp__law_whole (tConsF (tOp2 gIx (tVar 0) (tK (.int 1))) tNilA))))))) (tRetD (tK (.bool false))) tNextD)
  (tRetD (tAndE (tOp2 gNe (tVar 0) (tTupD (tConsF (tK (.int 0)) (tConsF (tK (.int 0)) tNilA)))) (tOp2 gEq (tCallD [] sp__law_straight (tConsF (tVar 0) tNilA)) (tVar 0)))))
theorem div_self_gcd {a b : Int} (h : Int.gcd a b = 1) : pr (a / (Int.gcd a b : Nat)) (b / (Int.gcd a b : Nat)) = pr a b := by
  rw [h]
  show pr (a / 1) (b / 1) = _
  rw [Int.ediv_one, Int.ediv_one]
theorem div_gcd_ne {a b : Int} (h0 : a ≠ 0 ∨ b ≠ 0) (h : Int.gcd a b ≠ 1) : pr (a / (Int.gcd a b : Nat)) (b / (Int.gcd a b : Nat)) ≠ pr a b := by
  intro e
  have g0 : 0 < Int.gcd a b := Nat.pos_of_ne_zero fun z => by
    have := Int.gcd_eq_zero_iff.mp z
    rcases h0 with h | h
    · exact h this.1
    · exact h this.2
  injection e with e
  injection e with e1 e2
  injection e2 with e2 _
  injection e1 with e1
  injection e2 with e2
  have k := Int.gcd_ediv_gcd_ediv_gcd g0
  rw [e1, e2] at k
  exact h k
theorem vc__law_is_ray : ∀ ws Q E, sp__law_is_ray ws Q E → t__law_is_ray (endsOf [] ws Q E) (startD N__law_is_ray ws) := by
  rintro ws Q E ⟨d, rfl, ok, h⟩
  cases d with
  | tuple xs =>
    match xs, ok, h with
    | [], ok, h => exact ⟨rfl, rfl, h⟩
    | [x], ok, h =>
      rw [show rayB (.tuple [x]) = false by cases x <;> rfl] at h
      exact ⟨rfl, rfl, h⟩
    | [x, y], ok, h =>
      refine seq_cut (fun ρ => (∃ a b, x = .int a ∧ y = .int b) ∧ ρ = [some (.val (.tuple [x, y]))]) (fun K hK => ?_) ?_
      · refine ⟨rfl, rfl, _, rfl, brB (fun h1 => ?_) (fun h1 => ?_)⟩
        · have : rayB (.tuple [x, y]) = false := by
            refine rayB_false ?_
            show (whB x && whB y) = false
            rw [show whB x = false by cases q : whB x with | false => rfl | true => (unfold whB at q; rw [q] at h1; cases h1), Bool.false_and]
          rw [this] at h
          exact h
        · obtain ⟨a, rfl⟩ := whB_int (d := x) (by simpa [whB] using h1)
          refine ⟨_, rfl, brB (fun h2 => ?_) (fun h2 => ?_)⟩
          · have : rayB (.tuple [.int a, y]) = false := by
              refine rayB_false ?_
              show (whB (.int a) && whB y) = false
              rw [show whB y = false by cases q : whB y with | false => rfl | true => (unfold whB at q; rw [q] at h2; cases h2), Bool.and_false]
            rw [this] at h
            exact h
          · obtain ⟨b, rfl⟩ := whB_int (d := y) (by simpa [whB] using h2)
            exact hK _ ⟨⟨a, b, rfl, rfl⟩, rfl⟩
      rintro ρ ⟨⟨a, b, rfl, rfl⟩, rfl⟩
      obtain ⟨ba, bb⟩ := ok a b rfl
      have er : rayB (pr a b) = decide (Int.gcd a b = 1) := rfl
      refine ⟨rfl, rfl, brNeD (n := 1) (m := 1) rfl rfl (fun z => ?_) (fun z => ?_)⟩
      · have h0 : a ≠ 0 ∨ b ≠ 0 := by
          by_cases c : a = 0
          · exact .inr fun w => z (by rw [c, w])
          · exact .inl c
        refine ⟨a, b, rfl, ba, bb, h0, rfl, rfl, ?_⟩
        have e : PyData.eqv (pr (a / (Int.gcd a b : Nat)) (b / (Int.gcd a b : Nat))) (pr a b) = decide (Int.gcd a b = 1) := by
          refine eqv_dec (n := 1) (m := 1) rfl rfl ⟨fun w => ?_, fun w => div_self_gcd w⟩
          by_cases g : Int.gcd a b = 1
          · exact g
          · exact absurd w (div_gcd_ne h0 g)
        rw [e]
        exact h
      · injection z with z
        injection z with z1 z2
        injection z2 with z2 _
        injection z1 with z1
        injection z2 with z2
        subst z1 z2
        exact h
    | x :: y :: z :: r, ok, h =>
      rw [show rayB (.tuple (x :: y :: z :: r)) = false by cases x <;> first | rfl | (cases y <;> rfl)] at h
      exact ⟨rfl, rfl, h⟩
  | none => exact h
  | bool b => exact h
  | int b => exact h
  | str b => exact h
  | list b => exact h
  | dict b => exact h
def sp__law_has_east : SpD := fun ws P _ => ∃ p q : Pt, ws = [.val (pd p), .val (pd q)] ∧ P (.val (.bool (est p q))) ws
theorem len__law_has_east : ∀ ws Q E, sp__law_has_east ws Q E → ws.length = 2 := by
  rintro ws Q E ⟨p, q, rfl, _⟩
  rfl
def N__law_has_east : List Str := ["_law_one", "_law_other"]
def t__law_has_east : TsD :=
  (tSeqD (tIfD (tTst (tOp2 gEq (tOp2 gIx (tVar 0) (tK (.int 1))) (tK (.int 0)))) (tRetD (tOp2 gGt (tOp2 gIx (tVar 0) (tK (.int 0))) (tK (.int 0)))) tNextD)
  (tRetD (tAndE (tOp2 gLt (tOp2 gIx (tVar 0) (tK (.int 1))) (tK (.int 0))) (tOp2 gGt (tOp2 gIx (tVar 1) (tK (.int 1))) (tK (.int 0))))))
theorem vc__law_has_east : ∀ ws Q E, sp__law_has_east ws Q E → t__law_has_east (endsOf [] ws Q E) (startD N__law_has_east ws) := by
  rintro ws Q E ⟨p, q, rfl, h⟩
  refine ⟨rfl, rfl, brEq (fun z => ?_) (fun z => brD (fun c => ?_) (fun c => ?_))⟩
  · unfold est at h
    rw [if_pos z] at h
    exact h
  · unfold est at h
    rw [if_neg z, decide_eq_true c, Bool.true_and] at h
    exact h
  · unfold est at h
    rw [if_neg z, decide_eq_false c, Bool.false_and] at h
    exact h
def sp__law_fault : SpD := fun ws P _ => ∃ d : D, ws = [.val d] ∧ okD d ∧ P (.val (fltD d)) ws
theorem len__law_fault : ∀ ws Q E, sp__law_fault ws Q E → ws.length = 1 := by
  rintro ws Q E ⟨d, rfl, _⟩
  rfl
def N__law_fault : List Str := ["_law_thing", "_law_at", "_law_ray", "_law_many"]
def t__law_fault : TsD :=
  (tSeqD (tIfD (tOrT (tNotT (tTst (tOp1 (gIsI "list") (tVar 0)))) (tTst (tOp2 gLt (tBlt gLen (tConsV (tVar 0) tNilA)) (tK (.int 3))))) (tRetD (tTupD (tConsF (tK (.str "round")) (tConsF (tK (.int 0)) tNilA)))) tNextD)
  (tSeqD (tForD (tiEn [] (tConsV (tVar 0) tNilA)) (gTupD 2 (gsConsD (gNameD 1) (gsConsD (gNameD 2) gsNilD))) (tIfD (tNotT (tTst (tCallD [] sp__law_is_ray (tConsF (tVar 2) tNilA)))) (tRetD (tTupD (tConsF (tK (.str "ray")) (tConsF (tVar 1) tNilA)))) tNextD))
  (tSeqD (tForD (tiEn [] (tConsV (tVar 0) tNilA)) (gTupD 2 (gsConsD (gNameD 1) (gsConsD (gNameD 2) gsNilD))) (tIfD (tTst (tOp2 gLe (tCallD [] sp__law_cross (tConsF (tVar 2) (tConsF (tOp2 gIx (tVar 0) (tOp2 gMod (tOp2 gAdd (tVar 1) (tK (.int 1))) (tBlt gLen (tConsV (tVar 0) tNilA)))) tNilA))) (tK (.int 0)))) (tRetD (tTupD (tConsF (tK (.str "wedge")) (tConsF (tVar 1) tNilA)))) tNextD))
  (tSeqD (tSetD 3 (tK (.int 0)))
  (tSeqD (tForD (tiR1 (tConsF (tBlt gLen (tConsV (tVar 0) tNilA)) tNilA)) (gNameD 1) (tSetD 3 (tOp2 gAdd (tVar 3) (tBlt gInt (tConsV (tCallD [] sp__law_has_east (tConsF (tOp2 gIx (tVar 0) (tOp2 gSub (tVar 1) (tK (.int 1)))) (tConsF (tOp2 gIx (tVar 0) (tVar 1)) tNilA))) tNilA)))))
  (tSeqD (tIfD (tTst (tOp2 gGt (tVar 3) (tK (.int 1)))) (tRetD (tTupD (tConsF (tK (.str "turns")) (tConsF (tK (.int 0)) tNilA)))) tNextD)
  (tRetD (tK .none))))))))
theorem steps_at {l : List Pt} {j : Nat} (h : j < l.length) : (steps l).drop j = (gp l j, gp l (nxI l.length j)) :: (steps l).drop (j + 1) := by
  have len : (steps l).length = l.length := by rw [steps_range, List.length_map, List.length_range]
  rw [List.drop_eq_getElem_cons (show j < (steps l).length by omega)]
  congr 1
  have : (steps l)[j]? = some (gp l j, gp l (nxI l.length j)) := by
    rw [steps_range, List.getElem?_map, List.getElem?_range h]
    rfl
  rw [List.getElem?_eq_getElem (show j < (steps l).length by omega)] at this
  exact Option.some.inj this
theorem vc__law_fault : ∀ ws Q E, sp__law_fault ws Q E → t__law_fault (endsOf [] ws Q E) (startD N__law_fault ws) := by
  rintro ws Q E ⟨d, rfl, ok, h⟩
  match d, ok, h with
  | .list xs, ok, h =>
    obtain ⟨hl, hb⟩ := ok xs rfl
    have got : ∀ c (i : Nat), flt (.list xs) = some (c, i) → Q (.val (.tuple [.str c, .int (i : Nat)])) [.val (.list xs)] := fun c i e => by
      unfold fltD at h
      rw [e] at h
      exact h
    refine seq_cut (fun ρ => 3 ≤ xs.length ∧ ρ = [some (.val (.list xs)), none, none, none]) (fun K hK => ?_) ?_
    · refine brD (fun c => ?_) (fun c => hK _ ⟨?_, rfl⟩)
      · have c : (xs.length : Int) < 3 := c
        refine got "round" 0 ?_
        show (if xs.length < 3 then _ else _) = _
        rw [if_pos (by omega)]
      · have c : ¬ (xs.length : Int) < 3 := c
        omega
    rintro ρ ⟨h3, rfl⟩
    have f3 : flt (.list xs) = match rayF 0 xs with | some i => some ("ray", i) | none => fltP (xs.map toP) := by
      show (if xs.length < 3 then _ else _) = _
      exact if_neg (by omega)
    refine seq_cut (fun ρ => rayF 0 xs = none ∧ ∃ a b, ρ = [some (.val (.list xs)), a, b, none]) (fun K hK => ?_) ?_
    · have e : ((xs.zipIdx 0).map fun p : D × Nat => PyData.tuple [.int (p.2 : Nat), p.1]) = ((xs.map id).zipIdx 0).map fun p => .tuple [.int (p.2 : Nat), p.1] := by rw [List.map_id]
      show loopD _ _ _ _ (enD xs) _
      unfold enD
      rw [e]
      refine loop_enum id (fun i post ρ => (∀ x ∈ post, x ∈ xs) ∧ rayF 0 xs = rayF i post ∧ ∃ a b, ρ = [some (.val (.list xs)), a, b, none]) ?_ ?_ xs 0 _ ⟨fun _ h => h, rfl, _, _, rfl⟩
      · rintro i x post ρ ⟨hm, hf, a, b, rfl⟩ k hk
        refine ⟨x, rfl, fun a b e => hb (a, b) (by rw [show pd (a, b) = pr a b from rfl, ← e]; exact hm x (by simp)), brB (fun c => ?_) (fun c => ?_)⟩
        · have c : rayB x = false := by simpa using c
          refine got "ray" i ?_
          have e2 : rayF i (x :: post) = some i := by
            unfold rayF
            rw [if_neg (by rw [c]; decide)]
          rw [f3, hf, e2]
        · have c : rayB x = true := by simpa using c
          refine ⟨srcN, hk _ ⟨fun y hy => hm y (by simp [hy]), ?_, _, _, rfl⟩⟩
          rw [hf]
          show (if rayB x = true then _ else _) = _
          rw [if_pos c]
      · rintro i ρ ⟨_, hf, a, b, rfl⟩
        exact hK _ ⟨hf, a, b, rfl⟩
    rintro ρ ⟨hr, a, b, rfl⟩
    obtain ⟨ep, _⟩ := rayF_none hr
    obtain ⟨l, hl2⟩ : ∃ l, l = xs.map toP := ⟨_, rfl⟩
    rw [← hl2] at ep
    subst ep
    have ll : l.length = (prs l).length := (List.length_map _).symm
    have bg : ∀ p ∈ l, Big p.1 ∧ Big p.2 := fun p hp => by
      obtain ⟨q1, q2⟩ := hb p (List.mem_map.mpr ⟨p, hp, rfl⟩)
      exact ⟨q1.mono (by decide), q2.mono (by decide)⟩
    have hne : l ≠ [] := fun z => by rw [z] at h3; simp at h3
    rw [hr, toP_prs] at f3
    have f4 : flt (.list (prs l)) = fltP l := f3
    rw [fltP_turns hne] at f4
    refine seq_cut (fun ρ => wedF 0 (steps l) = none ∧ ∃ a b, ρ = [some (.val (.list (prs l))), a, b, none]) (fun K hK => ?_) ?_
    · refine loop_enum pd (fun i post ρ => post = l.drop i ∧ i ≤ l.length ∧ wedF 0 (steps l) = wedF i ((steps l).drop i) ∧ ∃ a b, ρ = [some (.val (.list (prs l))), a, b, none]) ?_ ?_ l 0 _ ⟨rfl, by omega, rfl, _, _, rfl⟩
      · rintro i x post ρ ⟨hp, hi, hf, a, b, rfl⟩ k hk
        have hi2 : i < l.length := by
          by_cases z : i = l.length
          · rw [z, List.drop_length] at hp
            cases hp
          · omega
        rw [List.drop_eq_getElem_cons hi2, List.cons.injEq] at hp
        obtain ⟨rfl, hp⟩ := hp
        obtain ⟨b1, b2⟩ := bg _ (List.getElem_mem hi2)
        obtain ⟨b3, b4⟩ := bg _ (gp_mem (nxI_lt hi2))
        refine ⟨by omega, ?_⟩
        rw [mod_nx hi2]
        exists at_gp (nxI_lt hi2)
        refine ⟨_, _, rfl, b1, b2, b3, b4, brD (fun c => ?_) (fun c => ?_)⟩
        · have c : cr l[i] (gp l (nxI l.length i)) ≤ 0 := c
          refine got "wedge" i ?_
          have e2 : wedF i ((steps l).drop i) = some i := by
            rw [steps_at hi2]
            unfold wedF
            rw [if_pos (by rw [gp_eq hi2]; exact c)]
          rw [f4, hf, e2]
        · have c : ¬ cr l[i] (gp l (nxI l.length i)) ≤ 0 := c
          refine ⟨srcN, hk _ ⟨hp, hi2, ?_, _, _, rfl⟩⟩
          rw [hf, steps_at hi2]
          show (if _ then _ else _) = _
          rw [if_neg (by rw [gp_eq hi2]; exact c)]
      · rintro i ρ ⟨hp, hi, hf, a, b, rfl⟩
        have e : i = l.length := by
          have := congrArg List.length hp
          rw [List.length_drop] at this
          simp at this
          omega
        have e2 : wedF i ((steps l).drop i) = none := by
          rw [List.drop_of_length_le (by rw [steps_range, List.length_map, List.length_range]; omega)]
          rfl
        exact hK _ ⟨hf.trans e2, a, b, rfl⟩
    rintro ρ ⟨hw, a, b, rfl⟩
    rw [hw] at f4
    refine seq_to [some (.val (.list (prs l))), a, b, some (.val (.int (eaS l 0)))] (fun K hK => hK) ?_
    refine seq_cut (fun ρ => ∃ a b, ρ = [some (.val (.list (prs l))), a, b, some (.val (.int (eastN l : Nat)))]) (fun K hK => ?_) ?_
    · refine ⟨by rw [← ll]; omega, ?_⟩
      rw [← ll]
      refine loop_rng (fun i ρ => 0 ≤ i ∧ ∃ a b, ρ = [some (.val (.list (prs l))), a, b, some (.val (.int (eaS l i.toNat)))]) l.length ?_ ?_ l.length 0 _ (by omega) ⟨by omega, _, _, rfl⟩
      · rintro i ρ hi ⟨i0, a, b, rfl⟩ k hk
        obtain ⟨j, rfl⟩ := Int.eq_ofNat_of_zero_le i0
        have hj : j < l.length := by omega
        exists at_pv hj
        exists at_gp hj
        refine ⟨_, _, rfl, srcN, ?_⟩
        have := hk _ ⟨by omega, some (.val (.int (j : Nat))), b, rfl⟩
        rw [show ((j : Int) + 1).toNat = j + 1 by omega, eaS_succ] at this
        exact this
      · rintro ρ ⟨_, a, b, rfl⟩
        rw [show ((l.length : Int)).toNat = l.length by omega, eaS_all hne]
        exact hK _ ⟨a, b, rfl⟩
    rintro ρ ⟨a, b, rfl⟩
    refine brD (fun c => ?_) (fun c => ?_)
    · have c : ((eastN l : Nat) : Int) > 1 := c
      refine got "turns" 0 ?_
      rw [f4]
      show (if 1 < eastN l then _ else _) = _
      rw [if_pos (by omega)]
    · have c : ¬ ((eastN l : Nat) : Int) > 1 := c
      have e : flt (.list (prs l)) = none := by
        rw [f4]
        show (if 1 < eastN l then _ else _) = _
        rw [if_neg (by omega)]
      unfold fltD at h
      rw [e] at h
      exact h
  | .none, ok, h => exact h
  | .bool b, ok, h => exact h
  | .int b, ok, h => exact h
  | .str b, ok, h => exact h
  | .tuple b, ok, h => exact h
  | .dict b, ok, h => exact h
theorem flt_str {d : D} {c : String} {i : Nat} (h : flt d = some (c, i)) : c = "round" ∨ c = "ray" ∨ c = "wedge" ∨ c = "turns" := by
  have p : ∀ l, fltP l = some (c, i) → c = "wedge" ∨ c = "turns" := fun l e => by
    unfold fltP at e
    split at e
    · cases e; exact .inl rfl
    · split at e
      · cases e
      · cases e; exact .inr rfl
  unfold flt at h
  split at h
  · split at h
    · cases h; exact .inl rfl
    · split at h
      · cases h; exact .inr (.inl rfl)
      · exact .inr (.inr (p _ h))
  · cases h; exact .inl rfl
theorem fltD_pl (d : D) : pl 1 (fltD d) = true := by
  unfold fltD
  cases e : flt d with
  | none => rfl
  | some x =>
    obtain ⟨c, i⟩ := x
    refine pl_tup fun y hy => ?_
    rcases List.mem_cons.mp hy with rfl | hy
    · rcases flt_str e with rfl | rfl | rfl | rfl <;> (show PyData.strOk _ = true; decide +kernel)
    · rw [List.mem_singleton.mp hy]
      rfl
/-! ### any rounds of rays (the straight ray told as in frag_fault) -/
theorem straight_near {u v : Int} (hu : (u.natAbs : Int) ≤ 200) (hv : (v.natAbs : Int) ≤ 200) (h0 : u ≠ 0 ∨ v ≠ 0) : near (u / (Int.gcd u v : Nat), v / (Int.gcd u v : Nat)) = true ∧ Int.gcd (u / (Int.gcd u v : Nat)) (v / (Int.gcd u v : Nat)) = 1 := by
  have g0 : 0 < Int.gcd u v := Nat.pos_of_ne_zero fun z => by
    have := Int.gcd_eq_zero_iff.mp z
    rcases h0 with h | h
    · exact h this.1
    · exact h this.2
  refine ⟨?_, Int.gcd_ediv_gcd_ediv_gcd g0⟩
  unfold near
  rw [Bool.and_eq_true, decide_eq_true_eq, decide_eq_true_eq]
  have q1 := Int.natAbs_ediv_le_natAbs u (Int.gcd u v : Nat)
  have q2 := Int.natAbs_ediv_le_natAbs v (Int.gcd u v : Nat)
  show ((u / (Int.gcd u v : Nat)).natAbs : Int) ≤ 200 ∧ ((v / (Int.gcd u v : Nat)).natAbs : Int) ≤ 200
  omega
theorem bd_200 {u : Int} (hu : (u.natAbs : Int) ≤ 200) : Bd 5000 u := by
  have : Bd 8 u := by unfold Bd; omega
  exact this.mono (by decide)
def sp__law_put : SpD := fun ws P _ => ∃ (l : List Pt) (p : Pt), ws = [.val (.list (prs l)), .val (pd p)] ∧ Near l ∧ near p = true ∧ 1 ≤ l.length ∧ l.length ≤ 1000 ∧
  (∀ (j : Nat) (hj : j < l.length) (hm : (j + 1) % l.length < l.length), Ps l[j] p → Ps p l[(j + 1) % l.length] → P (.own (prs (l.take (j + 1) ++ [p] ++ l.drop (j + 1)))) ws) ∧
  ((∀ (j : Nat) (hj : j < l.length) (hm : (j + 1) % l.length < l.length), ¬ (Ps l[j] p ∧ Ps p l[(j + 1) % l.length])) → P (.val (.list (prs l))) ws)
theorem len__law_put : ∀ ws Q E, sp__law_put ws Q E → ws.length = 2 := by
  rintro ws Q E ⟨l, p, rfl, _⟩
  rfl
def N__law_put : List Str := ["_law_rays", "_law_ray", "_law_at", "_law_behind"]
def t__law_put : TsD :=
  (tSeqD (tForD (tiR1 (tConsF (tBlt gLen (tConsV (tVar 0) tNilA)) tNilA)) (gNameD 2) (tSeqD (tSetD 3 (tOp2 gIx (tVar 0) (tOp2 gMod (tOp2 gAdd (tVar 2) (tK (.int 1))) (tBlt gLen (tConsV (tVar 0) tNilA)))))
  (tIfD (tAndT (tTst (tOp2 gGt (tCallD [] sp__law_cross (tConsF (tOp2 gIx (tVar 0) (tVar 2)) (tConsF (tVar 1) tNilA))) (tK (.int 0)))) (tTst (tOp2 gGt (tCallD [] sp__law_cross (tConsF (tVar 1) (tConsF (tVar 3) tNilA))) (tK (.int 0))))) (tRetD (tOp2 gAdd (tOp2 gAdd (tSlD (tVar 0) tNoPt (tPt (tOp2 gAdd (tVar 2) (tK (.int 1))))) (tLstD (tConsF (tVar 1) tNilA))) (tSlD (tVar 0) (tPt (tOp2 gAdd (tVar 2) (tK (.int 1)))) tNoPt))) tNextD)))
  (tRetD (tVar 0)))
theorem vc__law_put : ∀ ws Q E, sp__law_put ws Q E → t__law_put (endsOf [] ws Q E) (startD N__law_put ws) := by
  rintro ws Q E ⟨l, p, rfl, hN, hn, l1, l2, h, h'⟩
  have w8 : ∀ {x : Int}, Bd 8 x → Big x := fun q => q.mono (by decide)
  obtain ⟨bp1, bp2⟩ := near_big hn
  refine seq_cut (fun ρ => (∀ (j : Nat) (hj : j < l.length) (hm : (j + 1) % l.length < l.length), ¬ (Ps l[j] p ∧ Ps p l[(j + 1) % l.length])) ∧ ∃ x y, ρ = [some (.val (.list (prs l))), some (.val (pd p)), x, y]) (fun k hk => ?_) ?_
  · refine ⟨by rw [List.length_map]; omega, ?_⟩
    rw [List.length_map]
    refine loop_rng (fun i ρ => 0 ≤ i ∧ (∀ (j : Nat) (hj : j < l.length) (hm : (j + 1) % l.length < l.length), (j : Int) < i → ¬ (Ps l[j] p ∧ Ps p l[(j + 1) % l.length])) ∧ ∃ x y, ρ = [some (.val (.list (prs l))), some (.val (pd p)), x, y]) l.length ?_ ?_ _ 0 _ (by omega) ⟨by omega, fun j hj hm z => by omega, _, _, rfl⟩
    · rintro i ρ hi ⟨i0, no, x, y, rfl⟩ k' hk'
      obtain ⟨j, rfl⟩ := Int.eq_ofNat_of_zero_le i0
      have hj : j < l.length := by omega
      have hm : (j + 1) % l.length < l.length := Nat.mod_lt _ (by omega)
      have hz : (((prs l).length : Nat) : Int) ≠ 0 := by rw [List.length_map]; omega
      obtain ⟨b1, b2⟩ := near_big (hN l[j] (List.getElem_mem hj))
      obtain ⟨b3, b4⟩ := near_big (hN l[(j + 1) % l.length] (List.getElem_mem hm))
      refine seq_to [some (.val (.list (prs l))), some (.val (pd p)), some (.val (.int j)), some (.val (pd l[(j + 1) % l.length]))] (fun K hK => ?_) ?_
      · refine ⟨hz, ?_⟩
        rw [mod_len (by omega)]
        exact onSome_of rfl (onSome_of rfl (onSome_of (at_prs hm) hK))
      have go : ¬ (Ps l[j] p ∧ Ps p l[(j + 1) % l.length]) → k' [some (.val (.list (prs l))), some (.val (pd p)), some (.val (.int j)), some (.val (pd l[(j + 1) % l.length]))] := fun z => hk' _ ⟨by omega, fun j' hj' hm' lt => by
        by_cases e : j' = j
        · subst e
          exact z
        · exact no j' hj' hm' (by omega), _, _, rfl⟩
      refine onSome_of (at_prs hj) (onSome_of rfl ⟨l[j], p, rfl, w8 b1, w8 b2, w8 bp1, w8 bp2, brD (fun c1 => ?_) (fun c1 => ⟨srcN, go fun z => c1 z.1⟩)⟩)
      refine ⟨p, l[(j + 1) % l.length], rfl, w8 bp1, w8 bp2, w8 b3, w8 b4, brD (fun c2 => ?_) (fun c2 => ⟨srcN, go fun z => c2 z.2⟩)⟩
      refine ⟨put_len1 (l := l) (p := p) (by omega), put_len2 (p := p) (by omega), ?_⟩
      have := h j hj hm c1 c2
      rw [← put_own] at this
      exact this
    · rintro ρ ⟨_, no, x, y, rfl⟩
      exact hk _ ⟨fun j hj hm => no j hj hm (by omega), x, y, rfl⟩
  rintro ρ ⟨no, x, y, rfl⟩
  exact h' no
def sp__law_any : SpD := fun ws P _ => ∃ b : List D, ws = [.own b] ∧ bagOk b ∧ ∀ b' l, bagOk b' → Anyl l → P (.val (.list (prs l))) [.own b']
theorem len__law_any : ∀ ws Q E, sp__law_any ws Q E → ws.length = 1 := by
  rintro ws Q E ⟨b, rfl, _⟩
  rfl
def N__law_any : List Str := ["_law_bag_here", "_law_rays", "_law_wide", "_law_k", "_law_one", "_law_other", "_law_at"]
def t__law_any : TsD :=
  (tSeqD (tSetF 1 (tCallD [0] sp__law_smooth (tConsV (tVar 0) tNilA)))
  (tSeqD (tSetD 2 (tOp2 gIx (tLstD (tConsF (tK (.int 7)) (tConsF (tK (.int 7)) (tConsF (tK (.int 7)) (tConsF (tK (.int 41)) (tConsF (tK (.int 401)) (tConsF (tK (.int 7)) (tConsF (tK (.int 7)) (tConsF (tK (.int 41)) tNilA))))))))) (tCallD [0] sp__law_digit (tConsV (tVar 0) (tConsF (tK (.int 8)) tNilA)))))
  (tSeqD (tForD (tiR1 (tConsF (tCallD [0] sp__law_digit (tConsV (tVar 0) (tConsF (tK (.int 6)) tNilA))) tNilA)) (gNameD 3) (tSeqD (tSetD 4 (tOp2 gSub (tCallD [0] sp__law_digit (tConsV (tVar 0) (tConsF (tVar 2) tNilA))) (tOp2 gDiv (tVar 2) (tK (.int 2)))))
  (tSeqD (tSetD 5 (tOp2 gSub (tCallD [0] sp__law_digit (tConsV (tVar 0) (tConsF (tVar 2) tNilA))) (tOp2 gDiv (tVar 2) (tK (.int 2)))))
  (tIfD (tAndT (tTst (tOp2 gNe (tTupD (tConsF (tVar 4) (tConsF (tVar 5) tNilA))) (tTupD (tConsF (tK (.int 0)) (tConsF (tK (.int 0)) tNilA))))) (tTst (tOp2 gLt (tBlt gLen (tConsV (tVar 1) tNilA)) (tK (.int 14))))) (tSetF 1 (tCallD [] sp__law_put (tConsF (tVar 1) (tConsF (tCallD [] sp__law_straight (tConsF (tTupD (tConsF (tVar 4) (tConsF (tVar 5) tNilA))) tNilA)) tNilA)))) tNextD))))
  (tSeqD (tForD (tiR1 (tConsF (tCallD [0] sp__law_digit (tConsV (tVar 0) (tConsF (tK (.int 6)) tNilA))) tNilA)) (gNameD 3) (tSeqD (tSetF 6 (tCallD [0] sp__law_digit (tConsV (tVar 0) (tConsF (tBlt gLen (tConsV (tVar 1) tNilA)) tNilA))))
  (tIfD (tAndT (tTst (tOp2 gGt (tBlt gLen (tConsV (tVar 1) tNilA)) (tK (.int 3)))) (tTst (tOp2 gGt (tCallD [] sp__law_cross (tConsF (tOp2 gIx (tVar 1) (tOp2 gSub (tVar 6) (tK (.int 1)))) (tConsF (tOp2 gIx (tVar 1) (tOp2 gMod (tOp2 gAdd (tVar 6) (tK (.int 1))) (tBlt gLen (tConsV (tVar 1) tNilA)))) tNilA))) (tK (.int 0))))) (tSetF 1 (tOp2 gAdd (tSlD (tVar 1) tNoPt (tPt (tVar 6))) (tSlD (tVar 1) (tPt (tOp2 gAdd (tVar 6) (tK (.int 1)))) tNoPt))) tNextD)))
  (tRetD (tVar 1))))))
theorem vc__law_any : ∀ ws Q E, sp__law_any ws Q E → t__law_any (endsOf [0] ws Q E) (startD N__law_any ws) := by
  rintro ws Q E ⟨b0, rfl, hb, h⟩
  refine seq_cut (fun ρ => ∃ b l, bagOk b ∧ Anyl l ∧ ρ = [some (.own b), some (.val (.list (prs l))), none, none, none, none, none]) (fun k hk => ⟨_, rfl, hb, fun b l hb hl => hk _ ⟨b, l, hb, hl.any, rfl⟩⟩) ?_
  rintro ρ ⟨b, l, hb, hl, rfl⟩
  refine seq_cut (fun ρ => ∃ b m, bagOk b ∧ 7 ≤ m ∧ m ≤ 401 ∧ ρ = [some (.own b), some (.val (.list (prs l))), some (.val (.int m)), none, none, none, none]) (fun k hk => ?_) ?_
  · refine ⟨_, _, rfl, hb, by decide, by decide, fun b r hb r0 r1 => ?_⟩
    obtain ⟨m, hm, e⟩ := pickI (ns := [7, 7, 7, 41, 401, 7, 7, 41]) (p := fun m => 7 ≤ m ∧ m ≤ 401) r0 r1 (by decide)
    exact onSome_of rfl (onSome_of rfl (onSome_of e (hk _ ⟨b, m, hb, hm.1, hm.2, rfl⟩)))
  rintro ρ ⟨b, m, hb, m0, m1, rfl⟩
  have hml : m.natAbs.log2 < 9000 := log_le (by omega) m1 (by decide)
  refine seq_cut (fun ρ => ∃ b l, bagOk b ∧ Anyl l ∧ ∃ x y z, ρ = [some (.own b), some (.val (.list (prs l))), some (.val (.int m)), x, y, z, none]) (fun k hk => ?_) ?_
  · refine ⟨_, _, rfl, hb, by decide, by decide, fun b n hb n0 n1 => ⟨by omega, ?_⟩⟩
    refine loop_rng (fun i ρ => 0 ≤ i ∧ ∃ b l, bagOk b ∧ Anyl l ∧ ∃ x y z, ρ = [some (.own b), some (.val (.list (prs l))), some (.val (.int m)), x, y, z, none]) n ?_ ?_ n.toNat 0 _ (by omega) ⟨by omega, b, l, hb, hl, _, _, _, rfl⟩
    · rintro i ρ hi ⟨i0, b, l, hb, hl, x, y, z, rfl⟩ k' hk'
      have dr : ∀ r : Int, 0 ≤ r → r < m → ((r - m.fdiv 2).natAbs : Int) ≤ 200 := fun r r0 r1 => by
        rw [fdiv_pos (by decide)]
        omega
      refine seq_cut (fun ρ => ∃ (b : List D) (u : Int), bagOk b ∧ (u.natAbs : Int) ≤ 200 ∧ ρ = [some (.own b), some (.val (.list (prs l))), some (.val (.int m)), some (.val (.int i)), some (.val (.int u)), z, none]) (fun K hK => ⟨_, _, rfl, hb, by omega, hml, fun b r hb r0 r1 => ⟨⟨by decide, by decide⟩, hK _ ⟨b, _, hb, dr r r0 r1, rfl⟩⟩⟩) ?_
      rintro ρ ⟨b, u, hb, hu, rfl⟩
      refine seq_cut (fun ρ => ∃ (b : List D) (v : Int), bagOk b ∧ (v.natAbs : Int) ≤ 200 ∧ ρ = [some (.own b), some (.val (.list (prs l))), some (.val (.int m)), some (.val (.int i)), some (.val (.int u)), some (.val (.int v)), none]) (fun K hK => ⟨_, _, rfl, hb, by omega, hml, fun b r hb r0 r1 => ⟨⟨by decide, by decide⟩, hK _ ⟨b, _, hb, dr r r0 r1, rfl⟩⟩⟩) ?_
      rintro ρ ⟨b, v, hb, hv, rfl⟩
      have done : ∀ l', Anyl l' → k' [some (.own b), some (.val (.list (prs l'))), some (.val (.int m)), some (.val (.int i)), some (.val (.int u)), some (.val (.int v)), none] := fun l' h' => hk' _ ⟨by omega, b, l', hb, h', _, _, _, rfl⟩
      refine ⟨rfl, rfl, brB (fun c1 => ?_) (fun _ => ⟨srcN, done _ hl⟩)⟩
      have c1 : u ≠ 0 ∨ v ≠ 0 := by
        have c1 : (!((u == 0) && ((v == 0) && true))) = true := c1
        simp at c1
        exact c1
      refine brD (fun c2 => ?_) (fun _ => ⟨srcN, done _ hl⟩)
      have c2' : l.length < 14 := by rw [List.length_map] at c2; omega
      have hl2 := hl.2.2.2.2
      refine ⟨u, v, rfl, bd_200 hu, bd_200 hv, c1, ?_⟩
      obtain ⟨hp, hg⟩ := straight_near hu hv c1
      exact ⟨l, (u / (Int.gcd u v : Nat), v / (Int.gcd u v : Nat)), rfl, hl.2.1, hp, by omega, by omega, fun j hj hm e1 e2 => ⟨srcN, done _ (any_put hl hj hm hp hg c2' e1 e2)⟩, fun _ => ⟨srcN, done _ hl⟩⟩
    · rintro ρ ⟨_, b, l, hb, hl, x, y, z, rfl⟩
      exact hk _ ⟨b, l, hb, hl, _, _, _, rfl⟩
  rintro ρ ⟨b, l, hb, hl, x, y, z, rfl⟩
  refine seq_cut (fun ρ => ∃ b l, bagOk b ∧ Anyl l ∧ ∃ x y z u, ρ = [some (.own b), some (.val (.list (prs l))), some (.val (.int m)), x, y, z, u]) (fun k hk => ?_) ?_
  · refine ⟨_, _, rfl, hb, by decide, by decide, fun b n hb n0 n1 => ⟨by omega, ?_⟩⟩
    refine loop_rng (fun i ρ => 0 ≤ i ∧ ∃ b l, bagOk b ∧ Anyl l ∧ ∃ x y z u, ρ = [some (.own b), some (.val (.list (prs l))), some (.val (.int m)), x, y, z, u]) n ?_ ?_ n.toNat 0 _ (by omega) ⟨by omega, b, l, hb, hl, _, _, _, _, rfl⟩
    · rintro i ρ hi ⟨i0, b, l, hb, hl, x, y, z, u, rfl⟩ k' hk'
      obtain ⟨q0, q1⟩ := len_ok (l := l) ⟨hl.2.2.1, hl.2.2.2.2⟩
      have hlen := hl.2.2.2.2
      refine seq_cut (fun ρ => ∃ (b : List D) (j : Nat), bagOk b ∧ j < l.length ∧ ρ = [some (.own b), some (.val (.list (prs l))), some (.val (.int m)), some (.val (.int i)), y, z, some (.val (.int j))]) (fun K hK => ?_) ?_
      · exact ⟨_, _, rfl, hb, q0, q1, fun b r hb r0 r1 => hK _ ⟨b, r.toNat, hb, by rw [List.length_map] at r1; omega, by rw [Int.toNat_of_nonneg r0]; rfl⟩⟩
      rintro ρ ⟨b, j, hb, hj, rfl⟩
      have done : ∀ l', Anyl l' → k' [some (.own b), some (.val (.list (prs l'))), some (.val (.int m)), some (.val (.int i)), y, z, some (.val (.int j))] := fun l' h' => hk' _ ⟨by omega, b, l', hb, h', _, _, _, _, rfl⟩
      refine brD (fun c1 => ?_) (fun _ => ⟨srcN, done _ hl⟩)
      have c1 : 3 < l.length := by rw [List.length_map] at c1; omega
      obtain ⟨nx, t, pv, e1, e2, a1, a2⟩ := rot_at hj hlen.1
      have m1 : nx ∈ l := List.mem_of_getElem? a1
      have m2 : pv ∈ l := List.mem_of_getElem? a2
      obtain ⟨b1, b2⟩ := near_big (hl.2.1 _ m1)
      obtain ⟨b3, b4⟩ := near_big (hl.2.1 _ m2)
      have w8 : ∀ {x : Int}, Bd 8 x → Big x := fun q => q.mono (by decide)
      refine onSome_of (at_prev hj a2) (onSome_of rfl ⟨by omega, ?_⟩)
      rw [mod_len (by omega)]
      refine onSome_of rfl (onSome_of rfl (onSome_of (atI_nat (v := pd nx) (by rw [List.getElem?_map, a1]; rfl)) ⟨pv, nx, rfl, w8 b3, w8 b4, w8 b1, w8 b2, brD (fun c2 => ?_) (fun _ => ⟨srcN, done _ hl⟩)⟩))
      have e3 := out_own (l := l) (j := j)
      refine ⟨by
        have : (cutD (prs l) none (some (j : Int))).length + (cutD (prs l) (some ((j : Int) + 1)) none).length ≤ 1000000 := by
          rw [show ((j : Int) + 1) = ((j + 1 : Nat) : Int) from rfl, cut_from, cut_to, List.length_take, List.length_drop, List.length_map]
          omega
        exact this, srcN, ?_⟩
      have := done _ (any_out hl c1 hj e1 e2 c2)
      rw [← e3] at this
      exact this
    · rintro ρ ⟨_, b, l, hb, hl, x, y, z, u, rfl⟩
      exact hk _ ⟨b, l, hb, hl, _, _, _, _, rfl⟩
  rintro ρ ⟨b, l, hb, hl, x, y, z, u, rfl⟩
  exact h _ _ hb hl
/-! ### things made of a round -/
/-- a part of such a thing -/
def El (x : D) : Prop := Sh 2 x ∧ ∀ p : Pt, pd p = x → Bd 5000 p.1 ∧ Bd 5000 p.2
theorem Bd.sh {n : Nat} {x : Int} (h : Bd n x) (k : n ≤ 20) : x.natAbs < 10 ^ 8 := by
  unfold Bd at h
  have : 2 ^ n ≤ 2 ^ 20 := Nat.pow_le_pow_right (by decide) k
  omega
theorem el_pd {p : Pt} (h1 : Bd 20 p.1) (h2 : Bd 20 p.2) : El (pd p) := ⟨⟨(show 2 ≤ 30 by decide), fun x hx => by
    rcases List.mem_cons.mp hx with rfl | hx
    · exact h1.sh (by decide)
    · rw [List.mem_singleton.mp hx]
      exact h2.sh (by decide)⟩, fun q e => by
    rw [pd_inj.mp e]
    exact ⟨h1.mono (by decide), h2.mono (by decide)⟩⟩
theorem el_not {x : D} (h : Sh 2 x) (k : ∀ p : Pt, pd p ≠ x) : El x := ⟨h, fun p e => absurd e (k p)⟩
theorem th_of {xs : List D} (h : xs.length ≤ 30) (he : ∀ x ∈ xs, El x) : Sh 3 (.list xs) ∧ okD (.list xs) :=
  ⟨⟨h, fun x hx => (he x hx).1⟩, fun ys e => by
    cases e
    exact ⟨by omega, fun p hp => (he _ hp).2 p rfl⟩⟩
theorem th_not {d : D} (h : Sh 3 d) (k : ∀ xs, d ≠ .list xs) : Sh 3 d ∧ okD d := ⟨h, fun xs e => absurd e (k xs)⟩
theorem el_near {l : List Pt} (h : Near l) {x : D} (hx : x ∈ prs l) : El x := by
  obtain ⟨p, hp, rfl⟩ := List.mem_map.mp hx
  obtain ⟨a, b⟩ := near_big (h p hp)
  exact el_pd (a.mono (by decide)) (b.mono (by decide))
theorem cutD_mem {xs : List D} {lo hi : Option Int} {x : D} (h : x ∈ cutD xs lo hi) : x ∈ xs := List.mem_of_mem_drop (List.mem_of_mem_take h)
theorem cutD_len (xs : List D) (lo hi : Option Int) : (cutD xs lo hi).length ≤ xs.length := by
  unfold cutD
  rw [List.length_take, List.length_drop]
  omega
def sp__law_odd : SpD := fun ws P _ => ∃ (b : List D) (p : Pt), ws = [.own b, .val (pd p)] ∧ bagOk b ∧ Bd 8 p.1 ∧ Bd 8 p.2 ∧ ∀ b' x, bagOk b' → El x → P (.val x) [.own b', .val (pd p)]
theorem len__law_odd : ∀ ws Q E, sp__law_odd ws Q E → ws.length = 2 := by
  rintro ws Q E ⟨b, p, rfl, _⟩
  rfl
def N__law_odd : List Str := ["_law_bag_here", "_law_ray", "_law_one", "_law_other", "_law_some"]
def t__law_odd : TsD :=
  (tSeqD (tAsgD (tVar 1) (gTupD 2 (gsConsD (gNameD 2) (gsConsD (gNameD 3) gsNilD))))
  (tSeqD (tSetF 4 (tLstD (tConsF (tK .none) (tConsF (tK (.bool true)) (tConsF (tK (.int 1)) (tConsF (tK (.str "1,0")) (tConsF (tLstD (tConsF (tVar 2) (tConsF (tVar 3) tNilA))) (tConsF (tTupD (tConsF (tVar 2) tNilA)) (tConsF (tTupD (tConsF (tVar 2) (tConsF (tVar 3) (tConsF (tK (.int 1)) tNilA)))) (tConsF (tTupD (tConsF (tK (.int 0)) (tConsF (tK (.int 0)) tNilA))) (tConsF (tTupD (tConsF (tOp2 gMul (tK (.int 2)) (tVar 2)) (tConsF (tOp2 gMul (tK (.int 2)) (tVar 3)) tNilA))) (tConsF (tTupD (tConsF (tK (.bool true)) (tConsF (tK (.int 0)) tNilA))) tNilA))))))))))))
  (tSeqD (tSetF 4 (tOp2 gAdd (tVar 4) (tLstD (tConsF (tTupD (tConsF (tVar 2) (tConsF (tK .none) tNilA))) (tConsF (tTupD tNilA) (tConsF (tTupD (tConsF (tTupD (tConsF (tK (.int 1)) (tConsF (tK (.int 0)) tNilA))) (tConsF (tK (.int 1)) tNilA))) (tConsF (tTupD (tConsF (tOp2 gSub (tK (.int 0)) (tOp2 gMul (tK (.int 3)) (tVar 2))) (tConsF (tOp2 gSub (tK (.int 0)) (tOp2 gMul (tK (.int 3)) (tVar 3))) tNilA))) (tConsF (tTupD (tConsF (tVar 2) (tConsF (tLstD (tConsF (tVar 3) tNilA)) tNilA))) (tConsF (tTupD (tConsF (tK (.str "1")) (tConsF (tK (.str "0")) tNilA))) tNilA)))))))))
  (tRetD (tOp2 gIx (tVar 4) (tCallD [0] sp__law_digit (tConsV (tVar 0) (tConsF (tK (.int 16)) tNilA))))))))
theorem vc__law_odd : ∀ ws Q E, sp__law_odd ws Q E → t__law_odd (endsOf [0] ws Q E) (startD N__law_odd ws) := by
  rintro ws Q E ⟨b, ⟨u, v⟩, rfl, hb, hu, hv, h⟩
  have o2 : Big 2 := by decide
  have o3 : Big 3 := by decide
  have mu : mulOk 2 u ∧ mulOk 3 u := ⟨o2.ok (hu.mono (by decide)), o3.ok (hu.mono (by decide))⟩
  have mv : mulOk 2 v ∧ mulOk 3 v := ⟨o2.ok (hv.mono (by decide)), o3.ok (hv.mono (by decide))⟩
  have iu : u.natAbs < 10 ^ 8 := hu.sh (by decide)
  have iv : v.natAbs < 10 ^ 8 := hv.sh (by decide)
  have s0 : ∀ x ∈ [PyData.int u, .int v], Sh 0 x := fun x hx => by
    rcases List.mem_cons.mp hx with rfl | hx
    · exact iu
    · rw [List.mem_singleton.mp hx]; exact iv
  have bd20 : ∀ {x : Int}, Bd 8 x → Bd 20 (2 * x) ∧ Bd 20 (0 - 3 * x) := fun {x} k => by
    unfold Bd at k ⊢
    omega
  obtain ⟨xs, exs⟩ : ∃ xs, xs = [PyData.none, .bool true, .int 1, .str "1,0", .list [.int u, .int v], .tuple [.int u], .tuple [.int u, .int v, .int 1], .tuple [.int 0, .int 0], pd (2 * u, 2 * v), .tuple [.bool true, .int 0],
    .tuple [.int u, .none], .tuple [], .tuple [pd (1, 0), .int 1], pd (0 - 3 * u, 0 - 3 * v), .tuple [.int u, .list [.int v]], .tuple [.str "1", .str "0"]] := ⟨_, rfl⟩
  have lx : xs.length = 16 := by rw [exs]; rfl
  have all : ∀ x ∈ xs, El x := by
    rw [exs]
    intro x hx
    simp only [List.mem_cons, List.not_mem_nil, or_false] at hx
    have st : ∀ y : Str, y = "1,0" ∨ y = "1" ∨ y = "0" → Sh 0 (.str y) := fun y hy => by
      rcases hy with rfl | rfl | rfl <;> exact ⟨by decide, by decide⟩
    rcases hx with rfl | rfl | rfl | rfl | rfl | rfl | rfl | rfl | rfl | rfl | rfl | rfl | rfl | rfl | rfl | rfl
    · exact el_not trivial fun p e => by cases e
    · exact el_not trivial fun p e => by cases e
    · exact el_not (show (1 : Int).natAbs < 10 ^ 8 by decide) fun p e => by cases e
    · exact el_not ((st _ (.inl rfl)).up (by decide)) fun p e => by cases e
    · exact el_not ⟨(show 2 ≤ 30 by decide), fun x hx => (s0 x hx).up (by decide)⟩ fun p e => by cases e
    · exact el_not ⟨(show 1 ≤ 30 by decide), fun x hx => (s0 x (by simp at hx; simp [hx])).up (by decide)⟩ fun p e => by cases e
    · refine el_not ⟨(show 3 ≤ 30 by decide), fun x hx => ?_⟩ fun p e => by cases e
      rcases List.mem_cons.mp hx with rfl | hx
      · exact iu
      rcases List.mem_cons.mp hx with rfl | hx
      · exact iv
      rw [List.mem_singleton.mp hx]
      exact (show (1 : Int).natAbs < 10 ^ 8 by decide)
    · exact el_pd (p := (0, 0)) (by decide) (by decide)
    · exact el_pd (p := (2 * u, 2 * v)) (bd20 hu).1 (bd20 hv).1
    · refine el_not ⟨(show 2 ≤ 30 by decide), fun x hx => ?_⟩ fun p e => by cases e
      rcases List.mem_cons.mp hx with rfl | hx
      · trivial
      rw [List.mem_singleton.mp hx]
      exact (show (0 : Int).natAbs < 10 ^ 8 by decide)
    · refine el_not ⟨(show 2 ≤ 30 by decide), fun x hx => ?_⟩ fun p e => by cases e
      rcases List.mem_cons.mp hx with rfl | hx
      · exact iu
      rw [List.mem_singleton.mp hx]
      trivial
    · exact el_not ⟨(show 0 ≤ 30 by decide), fun x hx => by cases hx⟩ fun p e => by cases e
    · refine el_not ⟨(show 2 ≤ 30 by decide), fun x hx => ?_⟩ fun p e => by cases e
      rcases List.mem_cons.mp hx with rfl | hx
      · refine ⟨(show 2 ≤ 30 by decide), fun x hx => ?_⟩
        rcases List.mem_cons.mp hx with rfl | hx
        · exact (show (1 : Int).natAbs < 10 ^ 8 by decide)
        rw [List.mem_singleton.mp hx]
        exact (show (0 : Int).natAbs < 10 ^ 8 by decide)
      rw [List.mem_singleton.mp hx]
      exact (show (1 : Int).natAbs < 10 ^ 8 by decide)
    · exact el_pd (p := (0 - 3 * u, 0 - 3 * v)) (bd20 hu).2 (bd20 hv).2
    · refine el_not ⟨(show 2 ≤ 30 by decide), fun x hx => ?_⟩ fun p e => by cases e
      rcases List.mem_cons.mp hx with rfl | hx
      · exact iu
      rw [List.mem_singleton.mp hx]
      exact ⟨(show 1 ≤ 30 by decide), fun x hx => by rw [List.mem_singleton.mp hx]; exact iv⟩
    · refine el_not ⟨(show 2 ≤ 30 by decide), fun x hx => ?_⟩ fun p e => by cases e
      rcases List.mem_cons.mp hx with rfl | hx
      · exact (st _ (.inr (.inl rfl))).up (by decide)
      rw [List.mem_singleton.mp hx]
      exact (st _ (.inr (.inr rfl))).up (by decide)
  refine seq_to [some (.own b), some (.val (pd (u, v))), some (.val (.int u)), some (.val (.int v)), none] (fun K hK => hK) ?_
  refine seq_to [some (.own b), some (.val (pd (u, v))), some (.val (.int u)), some (.val (.int v)), some (.val (.list (xs.take 10)))] (fun K hK => ?_) ?_
  · rw [exs] at hK
    exact ⟨mu.1, mv.1, hK⟩
  refine seq_to [some (.own b), some (.val (pd (u, v))), some (.val (.int u)), some (.val (.int v)), some (.val (.list xs))] (fun K hK => ?_) ?_
  · rw [exs] at hK ⊢
    exact ⟨mu.2, mv.2, (show 10 + 6 ≤ 1000000 by decide), hK⟩
  refine ⟨_, _, rfl, hb, by decide, by decide, fun b r hb r0 r1 => ?_⟩
  obtain ⟨j, rfl⟩ := Int.eq_ofNat_of_zero_le r0
  have hj : j < xs.length := by omega
  exists atI_nat (List.getElem?_eq_getElem hj)
  exact h _ _ hb (all _ (List.getElem_mem hj))
/-- what is handed back: a thing, or a list that is made of it -/
def isTh (w : W) (d : D) : Prop := w = .val d ∨ ∃ xs, d = .list xs ∧ w = .own xs
def sp__law_bent : SpD := fun ws P _ => ∃ (b : List D) (l : List Pt), ws = [.own b, .val (.list (prs l))] ∧ bagOk b ∧ Near l ∧ 3 ≤ l.length ∧ l.length ≤ 14 ∧ ∀ b' d w, bagOk b' → Sh 3 d → okD d → isTh w d → P w [.own b', .val (.list (prs l))]
theorem len__law_bent : ∀ ws Q E, sp__law_bent ws Q E → ws.length = 2 := by
  rintro ws Q E ⟨b, l, rfl, _⟩
  rfl
def N__law_bent : List Str := ["_law_bag_here", "_law_rays", "_law_at", "_law_way", "_law_some"]
def t__law_bent : TsD :=
  (tSeqD (tSetF 2 (tCallD [0] sp__law_digit (tConsV (tVar 0) (tConsF (tBlt gLen (tConsV (tVar 1) tNilA)) tNilA))))
  (tSeqD (tSetF 3 (tCallD [0] sp__law_digit (tConsV (tVar 0) (tConsF (tK (.int 11)) tNilA))))
  (tSeqD (tIfD (tTst (tOp2 gEq (tVar 3) (tK (.int 10)))) (tRetD (tOp2 gAdd (tVar 1) (tVar 1))) tNextD)
  (tSeqD (tIfD (tTst (tOp2 gEq (tVar 3) (tK (.int 0)))) (tSeqD (tSetF 4 (tLstD (tConsF (tK .none) (tConsF (tBlt gTuple (tConsV (tVar 1) tNilA)) (tConsF (tSlD (tVar 1) tNoPt (tPt (tK (.int 2)))) (tConsF (tSlD (tVar 1) tNoPt (tPt (tK (.int 1)))) (tConsF (tLstD tNilA) (tConsF (tK (.str "1,0 0,1 -1,-1")) (tConsF (tK (.int 3)) (tConsF (tK (.bool true)) (tConsF (tLstD (tConsF (tVar 1) tNilA)) (tConsF (tOp2 gIx (tVar 1) (tK (.int 0))) tNilA))))))))))))
  (tRetD (tOp2 gIx (tVar 4) (tCallD [0] sp__law_digit (tConsV (tVar 0) (tConsF (tK (.int 10)) tNilA)))))) tNextD)
  (tSeqD (tIfD (tTst (tOp2 gLt (tVar 3) (tK (.int 3)))) (tRetD (tOp2 gAdd (tOp2 gAdd (tSlD (tVar 1) tNoPt (tPt (tVar 2))) (tLstD (tConsF (tCallD [0] sp__law_odd (tConsV (tVar 0) (tConsF (tOp2 gIx (tVar 1) (tVar 2)) tNilA))) tNilA))) (tSlD (tVar 1) (tPt (tOp2 gAdd (tVar 2) (tK (.int 1)))) tNoPt))) tNextD)
  (tSeqD (tIfD (tTst (tOp2 gEq (tVar 3) (tK (.int 3)))) (tRetD (tOp2 gAdd (tOp2 gAdd (tSlD (tVar 1) tNoPt (tPt (tVar 2))) (tLstD (tConsF (tOp2 gIx (tVar 1) (tVar 2)) tNilA))) (tSlD (tVar 1) (tPt (tVar 2)) tNoPt))) tNextD)
  (tSeqD (tIfD (tTst (tOp2 gEq (tVar 3) (tK (.int 4)))) (tRetD (tOp2 gAdd (tOp2 gAdd (tSlD (tVar 1) tNoPt (tPt (tVar 2))) (tLstD (tConsF (tTupD (tConsF (tOp2 gSub (tK (.int 0)) (tOp2 gIx (tOp2 gIx (tVar 1) (tVar 2)) (tK (.int 0)))) (tConsF (tOp2 gSub (tK (.int 0)) (tOp2 gIx (tOp2 gIx (tVar 1) (tVar 2)) (tK (.int 1)))) tNilA))) tNilA))) (tSlD (tVar 1) (tPt (tOp2 gAdd (tVar 2) (tK (.int 1)))) tNoPt))) tNextD)
  (tSeqD (tIfD (tTst (tOp2 gEq (tVar 3) (tK (.int 5)))) (tRetD (tOp2 gAdd (tOp2 gAdd (tOp1 gRevL (tSlD (tVar 1) (tPt (tVar 2)) (tPt (tOp2 gAdd (tVar 2) (tK (.int 2)))))) (tSlD (tVar 1) tNoPt (tPt (tVar 2)))) (tSlD (tVar 1) (tPt (tOp2 gAdd (tVar 2) (tK (.int 2)))) tNoPt))) tNextD)
  (tSeqD (tIfD (tTst (tOp2 gEq (tVar 3) (tK (.int 6)))) (tRetD (tOp1 gRevL (tVar 1))) tNextD)
  (tSeqD (tIfD (tTst (tOp2 gEq (tVar 3) (tK (.int 7)))) (tRetD (tOp2 gAdd (tSlD (tVar 1) tNoPt (tPt (tVar 2))) (tSlD (tVar 1) (tPt (tOp2 gAdd (tVar 2) (tK (.int 2)))) tNoPt))) tNextD)
  (tSeqD (tIfD (tTst (tOp2 gEq (tVar 3) (tK (.int 8)))) (tRetD (tOp2 gAdd (tSlD (tVar 1) tNoPt (tPt (tVar 2))) (tSlD (tVar 1) (tPt (tOp2 gAdd (tVar 2) (tK (.int 1)))) tNoPt))) tNextD)
  (tRetD (tOp2 gAdd (tSlD (tVar 1) (tPt (tVar 2)) tNoPt) (tSlD (tVar 1) tNoPt (tPt (tVar 2))))))))))))))))
theorem vc__law_bent : ∀ ws Q E, sp__law_bent ws Q E → t__law_bent (endsOf [0] ws Q E) (startD N__law_bent ws) := by
  rintro ws Q E ⟨b, l, rfl, hb, hn, l3, l14, h⟩
  have zl : (((prs l).length : Nat) : Int) = l.length := by rw [List.length_map]
  have zl2 : (prs l).length = l.length := List.length_map _
  have el : ∀ x ∈ prs l, El x := fun x hx => el_near hn hx
  refine seq_cut (fun ρ => ∃ (b : List D) (j : Nat), bagOk b ∧ j < l.length ∧ ρ = [some (.own b), some (.val (.list (prs l))), some (.val (.int (j : Nat))), none, none]) (fun K hK => ?_) ?_
  · refine ⟨_, _, rfl, hb, by omega, log_le (by omega) (show (((prs l).length : Nat) : Int) ≤ 401 by omega) (by decide), fun b r hb r0 r1 => ?_⟩
    obtain ⟨j, rfl⟩ := Int.eq_ofNat_of_zero_le r0
    exact hK _ ⟨b, j, hb, by omega, rfl⟩
  rintro ρ ⟨b, j, hb, hj, rfl⟩
  refine seq_cut (fun ρ => ∃ (b : List D) (r : Int), bagOk b ∧ 0 ≤ r ∧ ρ = [some (.own b), some (.val (.list (prs l))), some (.val (.int (j : Nat))), some (.val (.int r)), none]) (fun K hK => ⟨_, _, rfl, hb, by decide, by decide, fun b r hb r0 r1 => hK _ ⟨b, r, hb, r0, rfl⟩⟩) ?_
  rintro ρ ⟨b, r, hb, r0, rfl⟩
  have own : ∀ {b : List D} {xs : List D}, bagOk b → xs.length ≤ 30 → (∀ x ∈ xs, El x) → Q (.own xs) [.own b, .val (.list (prs l))] := fun {b xs} hb hx he => by
    obtain ⟨a, c⟩ := th_of hx he
    exact h _ (.list xs) _ hb a c (.inr ⟨xs, rfl, rfl⟩)
  have eR : atI (prs l) (j : Int) = some (pd (gp l j)) := at_gp hj
  obtain ⟨g1, g2⟩ := near_big (hn _ (gp_mem hj))
  have len3 : ∀ {xs ys zs : List D}, xs.length ≤ l.length → ys.length ≤ 2 → zs.length ≤ l.length → xs.length + ys.length ≤ 1000000 ∧ (xs ++ ys).length + zs.length ≤ 1000000 ∧ ((xs ++ ys) ++ zs).length ≤ 30 := fun {xs ys zs} a b c => by
    simp only [List.length_append]
    omega
  have cl : ∀ lo hi, (cutD (prs l) lo hi).length ≤ l.length := fun lo hi => by
    have := cutD_len (prs l) lo hi
    omega
  refine seq_to [some (.own b), some (.val (.list (prs l))), some (.val (.int (j : Nat))), some (.val (.int r)), none] (fun K hK => ⟨rfl, rfl, brEq (fun _ => ?_) fun _ => hK⟩) ?_
  · refine ⟨by omega, own hb ?_ fun x hx => ?_⟩
    · rw [List.length_append]; omega
    · rcases List.mem_append.mp hx with z | z <;> exact el _ z
  refine seq_to [some (.own b), some (.val (.list (prs l))), some (.val (.int (j : Nat))), some (.val (.int r)), none] (fun K hK => ⟨rfl, rfl, brEq (fun _ => ?_) fun _ => hK⟩) ?_
  · have c2 := cut_to (prs l) 2
    have c1 := cut_to (prs l) 1
    refine seq_to [some (.own b), some (.val (.list (prs l))), some (.val (.int (j : Nat))), some (.val (.int r)), some (.val (.list [.none, .tuple (prs l), .list (cutD (prs l) none (some 2)), .list (cutD (prs l) none (some 1)), .list [], .str "1,0 0,1 -1,-1", .int 3, .bool true, .list [.list (prs l)], pd (gp l 0)]))] (fun K hK => ?_) ?_
    · exists at_gp (l := l) (j := 0) (by omega)
      exact hK
    refine ⟨_, _, rfl, hb, by decide, by decide, fun b r hb r0 r1 => ?_⟩
    obtain ⟨k, rfl⟩ := Int.eq_ofNat_of_zero_le r0
    have hk : k < 10 := by omega
    have sl : ∀ lo hi, Sh 3 (.list (cutD (prs l) lo hi)) ∧ okD (.list (cutD (prs l) lo hi)) := fun lo hi => th_of (by have := cl lo hi; omega) fun x hx => el _ (cutD_mem hx)
    have go : ∀ d, Sh 3 d ∧ okD d → Q (.val d) [.own b, .val (.list (prs l))] := fun d hd => h _ d _ hb hd.1 hd.2 (.inl rfl)
    match k, hk with
    | 0, _ => exact onSome_of rfl (go _ (th_not trivial fun _ z => by cases z))
    | 1, _ => exact onSome_of rfl (go _ (th_not ⟨by omega, fun x hx => (el x hx).1⟩ fun _ z => by cases z))
    | 2, _ => exact onSome_of rfl (go _ (sl _ _))
    | 3, _ => exact onSome_of rfl (go _ (sl _ _))
    | 4, _ => exact onSome_of rfl (go _ (th_of (by decide) fun x hx => by cases hx))
    | 5, _ => exact onSome_of rfl (go _ (th_not ⟨by decide, by decide⟩ fun _ z => by cases z))
    | 6, _ => exact onSome_of rfl (go _ (th_not (show (3 : Int).natAbs < 10 ^ 8 by decide) fun _ z => by cases z))
    | 7, _ => exact onSome_of rfl (go _ (th_not trivial fun _ z => by cases z))
    | 8, _ => exact onSome_of rfl (go _ ⟨⟨(show 1 ≤ 30 by decide), fun x hx => by rw [List.mem_singleton.mp hx]; exact ⟨by omega, fun x hx => by
        obtain ⟨p, hp, rfl⟩ := List.mem_map.mp hx
        obtain ⟨a, c⟩ := near_big (hn p hp)
        refine ⟨(show 2 ≤ 30 by decide), fun x hx => ?_⟩
        rcases List.mem_cons.mp hx with rfl | hx
        · exact a.sh (by decide)
        rw [List.mem_singleton.mp hx]
        exact c.sh (by decide)⟩⟩, fun xs e => by
        cases e
        exact ⟨(show 1 ≤ 200000 by decide), fun p hp => by cases (List.mem_singleton.mp hp)⟩⟩)
    | 9, _ => exact onSome_of rfl (go _ (th_not ((el _ (List.mem_map.mpr ⟨_, gp_mem (by omega), rfl⟩)).1.up (by decide)) fun _ z => by cases z))
    | k + 10, hk => omega
  refine seq_to [some (.own b), some (.val (.list (prs l))), some (.val (.int (j : Nat))), some (.val (.int r)), none] (fun K hK => brD (fun _ => ?_) fun _ => hK) ?_
  · exists eR
    refine ⟨_, _, rfl, hb, g1, g2, fun b x hb hx => ?_⟩
    obtain ⟨y1, y2, y3⟩ := len3 (ys := [x]) (cl none (some (j : Int))) (show 1 ≤ 2 by decide) (cl (some ((j : Int) + 1)) none)
    refine ⟨y1, y2, own hb y3 fun y hy => ?_⟩
    rcases List.mem_append.mp hy with z | z
    · rcases List.mem_append.mp z with z | z
      · exact el _ (cutD_mem z)
      · rw [List.mem_singleton.mp z]; exact hx
    · exact el _ (cutD_mem z)
  refine seq_to [some (.own b), some (.val (.list (prs l))), some (.val (.int (j : Nat))), some (.val (.int r)), none] (fun K hK => ⟨rfl, rfl, brEq (fun _ => ?_) fun _ => hK⟩) ?_
  · exists eR
    obtain ⟨y1, y2, y3⟩ := len3 (ys := [pd (gp l j)]) (cl none (some (j : Int))) (show 1 ≤ 2 by decide) (cl (some (j : Int)) none)
    refine ⟨y1, y2, own hb y3 fun y hy => ?_⟩
    rcases List.mem_append.mp hy with z | z
    · rcases List.mem_append.mp z with z | z
      · exact el _ (cutD_mem z)
      · rw [List.mem_singleton.mp z]; exact el_pd (g1.mono (by decide)) (g2.mono (by decide))
    · exact el _ (cutD_mem z)
  refine seq_to [some (.own b), some (.val (.list (prs l))), some (.val (.int (j : Nat))), some (.val (.int r)), none] (fun K hK => ⟨rfl, rfl, brEq (fun _ => ?_) fun _ => hK⟩) ?_
  · exists eR
    exists eR
    obtain ⟨y1, y2, y3⟩ := len3 (ys := [pd (0 - (gp l j).1, 0 - (gp l j).2)]) (cl none (some (j : Int))) (show 1 ≤ 2 by decide) (cl (some ((j : Int) + 1)) none)
    refine ⟨y1, y2, own hb y3 fun y hy => ?_⟩
    rcases List.mem_append.mp hy with z | z
    · rcases List.mem_append.mp z with z | z
      · exact el _ (cutD_mem z)
      · rw [List.mem_singleton.mp z]
        refine el_pd (p := (0 - (gp l j).1, 0 - (gp l j).2)) ?_ ?_
        · unfold Bd at g1 ⊢; omega
        · unfold Bd at g2 ⊢; omega
    · exact el _ (cutD_mem z)
  refine seq_to [some (.own b), some (.val (.list (prs l))), some (.val (.int (j : Nat))), some (.val (.int r)), none] (fun K hK => ⟨rfl, rfl, brEq (fun _ => ?_) fun _ => hK⟩) ?_
  · have two : (cutD (prs l) (some (j : Int)) (some ((j : Int) + 2))).reverse.length ≤ 2 := by
      rw [List.length_reverse]
      unfold cutD
      rw [List.length_take, show ((j : Int) + 2) = ((j + 2 : Nat) : Int) by omega, HT.sIx_nat, HT.sIx_nat]
      omega
    have c1 := cl none (some (j : Int))
    have c2 := cl (some ((j : Int) + 2)) none
    refine ⟨by omega, ?_, own hb ?_ fun y hy => ?_⟩
    · rw [List.length_append]; omega
    · rw [List.length_append, List.length_append]; omega
    · rcases List.mem_append.mp hy with z | z
      · rcases List.mem_append.mp z with z | z
        · exact el _ (cutD_mem (List.mem_reverse.mp z))
        · exact el _ (cutD_mem z)
      · exact el _ (cutD_mem z)
  refine seq_to [some (.own b), some (.val (.list (prs l))), some (.val (.int (j : Nat))), some (.val (.int r)), none] (fun K hK => ⟨rfl, rfl, brEq (fun _ => ?_) fun _ => hK⟩) ?_
  · exact own hb (by rw [List.length_reverse]; omega) fun y hy => el _ (List.mem_reverse.mp hy)
  have two : ∀ {xs ys : List D} {b : List D}, bagOk b → xs.length ≤ l.length → ys.length ≤ l.length → (∀ x ∈ xs, x ∈ prs l) → (∀ x ∈ ys, x ∈ prs l) → xs.length + ys.length ≤ 1000000 ∧ Q (.own (xs ++ ys)) [.own b, .val (.list (prs l))] := fun {xs ys b} hb a c e f => by
    refine ⟨by omega, own hb (by rw [List.length_append]; omega) fun y hy => ?_⟩
    rcases List.mem_append.mp hy with z | z
    · exact el _ (e _ z)
    · exact el _ (f _ z)
  refine seq_to [some (.own b), some (.val (.list (prs l))), some (.val (.int (j : Nat))), some (.val (.int r)), none] (fun K hK => ⟨rfl, rfl, brEq (fun _ => ?_) fun _ => hK⟩) ?_
  · exact two hb (cl _ _) (cl _ _) (fun x hx => cutD_mem hx) fun x hx => cutD_mem hx
  refine seq_to [some (.own b), some (.val (.list (prs l))), some (.val (.int (j : Nat))), some (.val (.int r)), none] (fun K hK => ⟨rfl, rfl, brEq (fun _ => ?_) fun _ => hK⟩) ?_
  · exact two hb (cl _ _) (cl _ _) (fun x hx => cutD_mem hx) fun x hx => cutD_mem hx
  exact two hb (cl _ _) (cl _ _) (fun x hx => cutD_mem hx) fun x hx => cutD_mem hx
def sp__law_again : SpD := fun ws P _ => ∃ (b : List D) (d : D), ws = [.own b, .val d] ∧ bagOk b ∧ Sh 3 d ∧ okD d ∧ ∀ b' d' w, bagOk b' → Sh 3 d' → okD d' → isTh w d' → P w [.own b', .val d]
theorem len__law_again : ∀ ws Q E, sp__law_again ws Q E → ws.length = 2 := by
  rintro ws Q E ⟨b, d, rfl, _⟩
  rfl
def N__law_again : List Str := ["_law_bag_here", "_law_thing", "_law_at"]
def t__law_again : TsD :=
  (tSeqD (tIfD (tOrT (tNotT (tTst (tOp1 (gIsI "list") (tVar 1)))) (tTst (tOp2 gLt (tBlt gLen (tConsV (tVar 1) tNilA)) (tK (.int 3))))) (tRetD (tVar 1)) tNextD)
  (tSeqD (tSetF 2 (tCallD [0] sp__law_digit (tConsV (tVar 0) (tConsF (tBlt gLen (tConsV (tVar 1) tNilA)) tNilA))))
  (tRetD (tOp2 gAdd (tOp2 gAdd (tSlD (tVar 1) tNoPt (tPt (tVar 2))) (tLstD (tConsF (tOp2 gIx (tLstD (tConsF (tK .none) (tConsF (tTupD (tConsF (tK (.int 2)) (tConsF (tK (.int 0)) tNilA))) (tConsF (tTupD (tConsF (tK (.int 1)) (tConsF (tK (.int 0)) tNilA))) (tConsF (tTupD (tConsF (tK (.int 0)) (tConsF (tK (.int 1)) tNilA))) tNilA))))) (tCallD [0] sp__law_digit (tConsV (tVar 0) (tConsF (tK (.int 4)) tNilA)))) tNilA))) (tSlD (tVar 1) (tPt (tOp2 gAdd (tVar 2) (tK (.int 1)))) tNoPt)))))
theorem vc__law_again : ∀ ws Q E, sp__law_again ws Q E → t__law_again (endsOf [0] ws Q E) (startD N__law_again ws) := by
  rintro ws Q E ⟨b, d, rfl, hb, hs, ho, h⟩
  have back : Q (.val d) [.own b, .val d] := h b d _ hb hs ho (.inl rfl)
  match d, hs, ho, h, back with
  | .list xs, hs, ho, h, back =>
    refine seq_cut (fun ρ => 3 ≤ xs.length ∧ ρ = [some (.own b), some (.val (.list xs)), none]) (fun K hK => brD (fun c => back) fun c => hK _ ⟨?_, rfl⟩) ?_
    · have c : ¬ (xs.length : Int) < 3 := c
      omega
    rintro ρ ⟨x3, rfl⟩
    have x30 : xs.length ≤ 30 := hs.1
    refine seq_cut (fun ρ => ∃ (b : List D) (j : Nat), bagOk b ∧ j < xs.length ∧ ρ = [some (.own b), some (.val (.list xs)), some (.val (.int (j : Nat)))]) (fun K hK => ?_) ?_
    · refine ⟨_, _, rfl, hb, by omega, log_le (by omega) (show ((xs.length : Nat) : Int) ≤ 401 by omega) (by decide), fun b r hb r0 r1 => ?_⟩
      obtain ⟨j, rfl⟩ := Int.eq_ofNat_of_zero_le r0
      exact hK _ ⟨b, j, hb, by omega, rfl⟩
    rintro ρ ⟨b, j, hb, hj, rfl⟩
    refine ⟨_, _, rfl, hb, by decide, by decide, fun b r hb r0 r1 => ?_⟩
    obtain ⟨k, rfl⟩ := Int.eq_ofNat_of_zero_le r0
    have hk : k < 4 := by omega
    have ex : ∀ x ∈ xs, El x := fun x hx => ⟨hs.2 x hx, fun p e => (ho xs rfl).2 p (by rw [e]; exact hx)⟩
    have e1 : cutD xs none (some (j : Int)) = xs.take j := by
      rw [(cut_at xs j (by omega)).2, Int.toNat_natCast]
    have e2 : cutD xs (some ((j : Int) + 1)) none = xs.drop (j + 1) := by
      rw [(cut_at xs ((j : Int) + 1) (by omega)).1]
      rfl
    have go : ∀ y, El y → (cutD xs none (some (j : Int))).length + [y].length ≤ 1000000 ∧ (cutD xs none (some (j : Int)) ++ [y]).length + (cutD xs (some ((j : Int) + 1)) none).length ≤ 1000000 ∧ Q (.own ((cutD xs none (some (j : Int)) ++ [y]) ++ cutD xs (some ((j : Int) + 1)) none)) [.own b, .val (.list xs)] := fun y hy => by
      rw [e1, e2]
      have z1 : (xs.take j).length = j := by rw [List.length_take]; omega
      have z2 : (xs.drop (j + 1)).length = xs.length - (j + 1) := List.length_drop
      have z3 : [y].length = 1 := rfl
      have z4 : (xs.take j ++ [y]).length = j + 1 := by rw [List.length_append]; omega
      obtain ⟨a, c⟩ := th_of (xs := (xs.take j ++ [y]) ++ xs.drop (j + 1)) (by rw [List.length_append]; omega) fun x hx => by
        rcases List.mem_append.mp hx with z | z
        · rcases List.mem_append.mp z with z | z
          · exact ex _ (List.mem_of_mem_take z)
          · rw [List.mem_singleton.mp z]; exact hy
        · exact ex _ (List.mem_of_mem_drop z)
      exact ⟨by omega, by omega, h _ _ _ hb a c (.inr ⟨_, rfl, rfl⟩)⟩
    match k, hk with
    | 0, _ => exact onSome_of rfl (go _ (el_not trivial fun p e => by cases e))
    | 1, _ => exact onSome_of rfl (go _ (el_pd (p := (2, 0)) (by decide) (by decide)))
    | 2, _ => exact onSome_of rfl (go _ (el_pd (p := (1, 0)) (by decide) (by decide)))
    | 3, _ => exact onSome_of rfl (go _ (el_pd (p := (0, 1)) (by decide) (by decide)))
    | k + 4, hk => omega
  | .none, _, _, _, back => exact back
  | .bool _, _, _, _, back => exact back
  | .int _, _, _, _, back => exact back
  | .str _, _, _, _, back => exact back
  | .tuple _, _, _, _, back => exact back
  | .dict _, hs, _, _, _ => exact hs.elim
def N_law : List Str := ["_law_script", "_law_k", "_law_bag_here", "_law_rays", "_law_turn", "_law_thing", "_law_kept"]
def t_law : TsD :=
  (tSeqD (tForD (tiR1 (tConsF (tBlt gMax2 (tConsV (tK (.int 1)) (tConsV (tBlt gMin2 (tConsV (tK (.int 8)) (tConsV (tBlt gLen (tConsV (tVar 0) tNilA)) tNilA))) tNilA))) tNilA)) (gNameD 1) (tSeqD (tSetD 2 (tCallD [] sp__law_bag (tConsF (tVar 0) (tConsF (tVar 1) tNilA))))
  (tSeqD (tSetD 3 (tOp2 gIx (tLstD (tConsF (tCallD [0] sp__law_smooth (tConsV (tVar 2) tNilA)) (tConsF (tCallD [0] sp__law_any (tConsV (tVar 2) tNilA)) tNilA))) (tCallD [0] sp__law_digit (tConsV (tVar 2) (tConsF (tK (.int 2)) tNilA)))))
  (tSeqD (tIfD (tOrT (tTst (tOp2 gNotN (tCallD [] sp__law_fault (tConsF (tVar 3) tNilA)) (tK .none))) (tTst (tOp2 gNotN (tCallD [] sp__law_looked (tConsF (tBlt gList (tConsV (tVar 3) tNilA)) tNilA)) (tK .none)))) (tRetD (tK (.bool false))) tNextD)
  (tForD (tiR1 (tConsF (tK (.int 4)) tNilA)) (gNameD 4) (tSeqD (tSetF 5 (tCallD [0] sp__law_bent (tConsV (tVar 2) (tConsF (tVar 3) tNilA))))
  (tSeqD (tIfD (tTst (tOp2 gEq (tCallD [0] sp__law_digit (tConsV (tVar 2) (tConsF (tK (.int 4)) tNilA))) (tK (.int 1)))) (tSetF 5 (tCallD [0] sp__law_again (tConsV (tVar 2) (tConsF (tVar 5) tNilA)))) tNextD)
  (tSeqD (tSetF 6 (tBlt gRep (tConsV (tVar 5) tNilA)))
  (tIfD (tOrT (tTst (tOp2 gNe (tCallD [] sp__law_looked (tConsF (tVar 5) tNilA)) (tCallD [] sp__law_fault (tConsF (tVar 5) tNilA)))) (tTst (tOp2 gNeS (tBlt gRep (tConsV (tVar 5) tNilA)) (tVar 6)))) (tRetD (tK (.bool false))) tNextD)))))))))
  (tRetD (tK (.bool true))))
theorem vc_law : ∀ ws Q E, spLaw ws Q E → t_law (endsOf [] ws Q E) (startD N_law ws) := by
  rintro ws Q E ⟨ns, rfl, hl, h⟩
  have fs : ∀ d, SeqAt.shaped (fltD d) = true := fun d => pl_shaped (fltD_pl d) (by decide)
  refine ⟨by rw [List.length_map]; omega, ?_⟩
  rw [List.length_map]
  refine loop_rng (fun i ρ => 0 ≤ i ∧ ∃ a b c d e f, ρ = [some (.val (.list (ns.map .int))), a, b, c, d, e, f]) (max 1 (min 8 ns.length)) ?_ ?_ _ 0 _ (by omega) ⟨by omega, _, _, _, _, _, _, rfl⟩
  · rintro i ρ hi ⟨i0, a, b, c, d, e, f, rfl⟩ k hk
    refine seq_cut (fun ρ => ∃ x, bagOk x ∧ ρ = [some (.val (.list (ns.map .int))), some (.val (.int i)), some (.own x), c, d, e, f]) (fun K hK => ⟨_, _, rfl, i0, by omega, fun x hx => hK _ ⟨x, hx, rfl⟩⟩) ?_
    rintro ρ ⟨x, hx, rfl⟩
    refine seq_cut (fun ρ => ∃ x l, bagOk x ∧ Anyl l ∧ ρ = [some (.val (.list (ns.map .int))), some (.val (.int i)), some (.own x), some (.val (.list (prs l))), d, e, f]) (fun K hK => ?_) ?_
    · refine ⟨_, rfl, hx, fun x l hx hl => ⟨_, rfl, hx, fun x m hx hm => ⟨_, _, rfl, hx, by decide, by decide, fun x r hx r0 r1 => ?_⟩⟩⟩
      obtain ⟨q, rfl⟩ := Int.eq_ofNat_of_zero_le r0
      match q, r1 with
      | 0, _ => exact onSome_of rfl (hK _ ⟨x, l, hx, hl.any, rfl⟩)
      | 1, _ => exact onSome_of rfl (hK _ ⟨x, m, hx, hm, rfl⟩)
      | q + 2, r1 => omega
    clear hx x
    rintro ρ ⟨x, l, hx, hl, rfl⟩
    obtain ⟨hc, hn, ho, hp, l3, l14⟩ := hl
    have ok : okD (.list (prs l)) := okD_prs (fun p hp => ⟨(near_big (hn p hp)).1.mono (by decide), (near_big (hn p hp)).2.mono (by decide)⟩) (by omega)
    have e0 : flt (.list (prs l)) = none := by rw [flt_prs (fun q hq => hp q hq) l3, fltP_once hc (ho (1, 0) (by decide))]
    have e1 : fltD (.list (prs l)) = .none := by unfold fltD; rw [e0]
    refine seq_to [some (.val (.list (ns.map .int))), some (.val (.int i)), some (.own x), some (.val (.list (prs l))), d, e, f] (fun K hK => ?_) ?_
    · refine ⟨_, rfl, ok, ?_⟩
      rw [e1]
      refine ⟨_, rfl, ok, ?_⟩
      rw [e1]
      exact hK
    refine ⟨by decide, ?_⟩
    refine loop_rng (fun q ρ => ∃ x d e f, bagOk x ∧ ρ = [some (.val (.list (ns.map .int))), some (.val (.int i)), some (.own x), some (.val (.list (prs l))), d, e, f]) 4 ?_ ?_ _ 0 _ (by omega) ⟨_, _, _, _, hx, rfl⟩
    · clear hx x
      rintro q ρ hq ⟨x, d, e, f, hx, rfl⟩ k' hk'
      refine seq_cut (fun ρ => ∃ x t, bagOk x ∧ Sh 3 t ∧ okD t ∧ ρ = [some (.val (.list (ns.map .int))), some (.val (.int i)), some (.own x), some (.val (.list (prs l))), some (.val (.int q)), some (.val t), f]) (fun K hK => ⟨_, _, rfl, hx, hn, l3, l14, fun x t w hx h1 h2 hw => ?_⟩) ?_
      · rcases hw with rfl | ⟨xs, rfl, rfl⟩
        · exact hK _ ⟨x, t, hx, h1, h2, rfl⟩
        · exact hK _ ⟨x, _, hx, h1, h2, rfl⟩
      clear hx x
      rintro ρ ⟨x, t, hx, h1, h2, rfl⟩
      refine seq_cut (fun ρ => ∃ x t, bagOk x ∧ Sh 3 t ∧ okD t ∧ ρ = [some (.val (.list (ns.map .int))), some (.val (.int i)), some (.own x), some (.val (.list (prs l))), some (.val (.int q)), some (.val t), f]) (fun K hK => ⟨_, _, rfl, hx, by decide, by decide, fun x r hx r0 r1 => ⟨rfl, rfl, brEq (fun _ => ⟨_, _, rfl, hx, h1, h2, fun x t w hx h1 h2 hw => ?_⟩) fun _ => hK _ ⟨x, t, hx, h1, h2, rfl⟩⟩⟩) ?_
      · rcases hw with rfl | ⟨xs, rfl, rfl⟩
        · exact hK _ ⟨x, t, hx, h1, h2, rfl⟩
        · exact hK _ ⟨x, _, hx, h1, h2, rfl⟩
      clear hx x h1 h2 t
      rintro ρ ⟨x, t, hx, h1, h2, rfl⟩
      refine seq_to [some (.val (.list (ns.map .int))), some (.val (.int i)), some (.own x), some (.val (.list (prs l))), some (.val (.int q)), some (.val t), some (.val (.str t.shown))] (fun K hK => ?_) ?_
      · exact ⟨t, rfl, shw_of h1, hK⟩
      refine ⟨t, rfl, h2, t, rfl, h2, fs _, fs _, brNeS (fltD_pl _) ?_⟩
      refine ⟨t, rfl, shw_of h1, ?_⟩
      show br (!decide (t.shown = t.shown)) _ _
      rw [decide_eq_true rfl]
      exact ⟨srcN, hk' _ ⟨x, _, _, _, hx, rfl⟩⟩
    · rintro ρ ⟨x, d, e, f, _, rfl⟩
      exact ⟨srcN, hk _ ⟨by omega, _, _, _, _, _, _, rfl⟩⟩
  · rintro ρ ⟨_, a, b, c, d, e, f, rfl⟩
    exact h
end RR

namespace RR
open PySem PySem.Spec PyProof.Rows L2
def topS (i : Nat) : Stmt := PySem.Challenge.pw_rayround_k06_rounds_of_any_thing.main.body.getD i (.Pass ⟨0, 0, 0, 0⟩)
section
variable {P : Program} {w : World} {K : PySem.W.Frag} {mg : Str → Option Value} {base : Heap}
abbrev s__law_bag : Stmt := topS 32
theorem sc__law_bag : FnScope N__law_bag ["_law_script", "_law_k"] (defScope s__law_bag) := ⟨rfl, rfl, rfl, by decide +kernel, rfl, by decide +kernel, by decide +kernel⟩
theorem ok__law_bag (d : Dfn K mg "_law_bag" s__law_bag ["_law_script", "_law_k"]) (z_len : mg "len" = none) (z_abs : mg "abs" = none) (z_int : mg "int" = none) : Cal P w K mg base 1 "_law_bag" ["_law_script", "_law_k"] [] sp__law_bag :=
  cal_of d sc__law_bag len__law_bag (fun f cdv A outer s H E hr =>
  (pvB_cons (pv_set 2 sc__law_bag.nd rfl (.inl rfl) pv_int)
  (pvB_cons (pv_if (pvT_cmp op_lt sem_lt (pv_var 1) (pv_blt call_len_seq sem_len (by rfl) z_len (by decide +kernel) (pvA_consV (pv_var 0) pvA_nil)) (nomark _)) (pvB_one (pv_set 2 sc__law_bag.nd rfl (.inl rfl) (pv_blt call_abs sem_abs (by rfl) z_abs (by decide +kernel) (pvA_consV (pv_ix ix_seq sem_ix (pv_var 0) (pv_var 1)) pvA_nil)))) pvB_nil)
  (pvB_cons (pv_set 3 sc__law_bag.nd rfl (.inl rfl) (pv_bin op_addA sem_add pv_int (pv_bin op_modN sem_mod (pv_bin op_addA sem_add (pv_bin op_addA sem_add (pv_bin op_addA sem_add (pv_bin op_modN sem_mod (pv_var 2) pv_int) (pv_bin op_mulB sem_mul (pv_bin op_mulB sem_mul pv_int (pv_var 1)) (pv_var 1))) (pv_bin op_mulB sem_mul pv_int (pv_var 1))) pv_int) pv_int)))
  (pvB_one (pv_ret (pv_lst (pvA_consF (pv_bin op_mulB sem_mul (pv_var 2) (pv_ty call_int1 sem_int (by rfl) z_int (by decide +kernel) (pvA_consV (pv_cmp op_ge sem_ge (pv_var 2) (pv_bin op_pow sem_pow pv_int pv_int) (nomark _)) pvA_nil))) (pvA_consF (pv_var 3) pvA_nil))))))))) vc__law_bag
abbrev s__law_digit : Stmt := topS 33
theorem sc__law_digit : FnScope N__law_digit ["_law_bag_here", "_law_many"] (defScope s__law_digit) := ⟨rfl, rfl, rfl, by decide +kernel, rfl, by decide +kernel, by decide +kernel⟩
theorem ok__law_digit (d : Dfn K mg "_law_digit" s__law_digit ["_law_bag_here", "_law_many"]) : Cal P w K mg base 1 "_law_digit" ["_law_bag_here", "_law_many"] [0] sp__law_digit :=
  cal_of d sc__law_digit len__law_digit (fun f cdv A outer s H E hr =>
  (pvB_cons (pv_if (pvT_cmp op_gt sem_gt (pv_ix ix_seq sem_ix (pv_var 0) pv_int) pv_int (nomark _)) (pvB_cons (pv_set 2 sc__law_digit.nd rfl (.inl rfl) (pv_bin op_modN sem_mod (pv_ix ix_seq sem_ix (pv_var 0) pv_int) (pv_var 1)))
  (pvB_cons (pv_item 0 (pv_bin op_divB sem_div (pv_ix ix_seq sem_ix (pv_var 0) pv_int) (pv_var 1)) pv_int)
  (pvB_one (pv_ret (pv_var 2))))) pvB_nil)
  (pvB_cons (pv_item 0 (pv_bin op_modN sem_mod (pv_bin op_mulB sem_mul (pv_ix ix_seq sem_ix (pv_var 0) pv_int) pv_int) pv_int) pv_int)
  (pvB_one (pv_ret (pv_bin op_modN sem_mod (pv_bin op_divB sem_div (pv_bin op_modN sem_mod (pv_bin op_mulB sem_mul (pv_ix ix_seq sem_ix (pv_var 0) pv_int) pv_int) pv_int) pv_int) (pv_var 1))))))) vc__law_digit
abbrev s__law_odd : Stmt := topS 51
theorem sc__law_odd : FnScope N__law_odd ["_law_bag_here", "_law_ray"] (defScope s__law_odd) := ⟨rfl, rfl, rfl, by decide +kernel, rfl, by decide +kernel, by decide +kernel⟩
theorem ok__law_odd (d : Dfn K mg "_law_odd" s__law_odd ["_law_bag_here", "_law_ray"]) (c__law_digit : Cal P w K mg base 1 "_law_digit" ["_law_bag_here", "_law_many"] [0] sp__law_digit) : Cal P w K mg base 2 "_law_odd" ["_law_bag_here", "_law_ray"] [0] sp__law_odd :=
  cal_of d sc__law_odd len__law_odd (fun f cdv A outer s H E hr =>
  (pvB_cons (pv_asg (pv_var 1) (pvG_tup rfl (pvGs_cons (pvG_name 2 sc__law_odd.nd rfl (.inl rfl)) (pvGs_cons (pvG_name 3 sc__law_odd.nd rfl (.inl rfl)) pvGs_nil))))
  (pvB_cons (pv_setF 4 sc__law_odd.nd rfl (.inl rfl) (pv_lst (pvA_consF pv_non (pvA_consF pv_bl (pvA_consF pv_int (pvA_consF pv_str (pvA_consF (pv_lst (pvA_consF (pv_var 2) (pvA_consF (pv_var 3) pvA_nil))) (pvA_consF (pv_tup (pvA_consF (pv_var 2) pvA_nil)) (pvA_consF (pv_tup (pvA_consF (pv_var 2) (pvA_consF (pv_var 3) (pvA_consF pv_int pvA_nil)))) (pvA_consF (pv_tup (pvA_consF pv_int (pvA_consF pv_int pvA_nil))) (pvA_consF (pv_tup (pvA_consF (pv_bin op_mulB sem_mul pv_int (pv_var 2)) (pvA_consF (pv_bin op_mulB sem_mul pv_int (pv_var 3)) pvA_nil))) (pvA_consF (pv_tup (pvA_consF pv_bl (pvA_consF pv_int pvA_nil))) pvA_nil))))))))))))
  (pvB_cons (pv_setF 4 sc__law_odd.nd rfl (.inl rfl) (pv_bin op_addA sem_add (pv_var 4) (pv_lst (pvA_consF (pv_tup (pvA_consF (pv_var 2) (pvA_consF pv_non pvA_nil))) (pvA_consF (pv_tup pvA_nil) (pvA_consF (pv_tup (pvA_consF (pv_tup (pvA_consF pv_int (pvA_consF pv_int pvA_nil))) (pvA_consF pv_int pvA_nil))) (pvA_consF (pv_tup (pvA_consF (pv_bin op_sub sem_sub pv_int (pv_bin op_mulB sem_mul pv_int (pv_var 2))) (pvA_consF (pv_bin op_sub sem_sub pv_int (pv_bin op_mulB sem_mul pv_int (pv_var 3))) pvA_nil))) (pvA_consF (pv_tup (pvA_consF (pv_var 2) (pvA_consF (pv_lst (pvA_consF (pv_var 3) pvA_nil)) pvA_nil))) (pvA_consF (pv_tup (pvA_consF pv_str (pvA_consF pv_str pvA_nil))) pvA_nil)))))))))
  (pvB_one (pv_ret (pv_ix ix_seq sem_ix (pv_var 4) (pv_callC c__law_digit (by decide) hr (by rfl) (L2N.takes_of rfl rfl rfl rfl) (pvA_consV (pv_var 0) (pvA_consF pv_int pvA_nil)))))))))) vc__law_odd
abbrev s__law_bent : Stmt := topS 52
theorem sc__law_bent : FnScope N__law_bent ["_law_bag_here", "_law_rays"] (defScope s__law_bent) := ⟨rfl, rfl, rfl, by decide +kernel, rfl, by decide +kernel, by decide +kernel⟩
theorem ok__law_bent (d : Dfn K mg "_law_bent" s__law_bent ["_law_bag_here", "_law_rays"]) (c__law_digit : Cal P w K mg base 1 "_law_digit" ["_law_bag_here", "_law_many"] [0] sp__law_digit) (c__law_odd : Cal P w K mg base 2 "_law_odd" ["_law_bag_here", "_law_ray"] [0] sp__law_odd) (z_len : mg "len" = none) (z_tuple : mg "tuple" = none) : Cal P w K mg base 3 "_law_bent" ["_law_bag_here", "_law_rays"] [0] sp__law_bent :=
  cal_of d sc__law_bent len__law_bent (fun f cdv A outer s H E hr =>
  (pvB_cons (pv_setF 2 sc__law_bent.nd rfl (.inl rfl) (pv_callC c__law_digit (by decide) hr (by rfl) (L2N.takes_of rfl rfl rfl rfl) (pvA_consV (pv_var 0) (pvA_consF (pv_blt call_len_seq sem_len (by rfl) z_len (by decide +kernel) (pvA_consV (pv_var 1) pvA_nil)) pvA_nil))))
  (pvB_cons (pv_setF 3 sc__law_bent.nd rfl (.inl rfl) (pv_callC c__law_digit (by decide) hr (by rfl) (L2N.takes_of rfl rfl rfl rfl) (pvA_consV (pv_var 0) (pvA_consF pv_int pvA_nil))))
  (pvB_cons (pv_if (pvT_cmp (op_eqD hr.units) sem_eq (pv_var 3) pv_int (nomark _)) (pvB_one (pv_ret (pv_bin op_addA sem_add (pv_var 1) (pv_var 1)))) pvB_nil)
  (pvB_cons (pv_if (pvT_cmp (op_eqD hr.units) sem_eq (pv_var 3) pv_int (nomark _)) (pvB_cons (pv_setF 4 sc__law_bent.nd rfl (.inl rfl) (pv_lst (pvA_consF pv_non (pvA_consF (pv_ty call_tuple_of sem_tuple (by rfl) z_tuple (by decide +kernel) (pvA_consV (pv_var 1) pvA_nil)) (pvA_consF (pv_slice (pv_var 1) pvP_none (pvP_some pv_int)) (pvA_consF (pv_slice (pv_var 1) pvP_none (pvP_some pv_int)) (pvA_consF (pv_lst pvA_nil) (pvA_consF pv_str (pvA_consF pv_int (pvA_consF pv_bl (pvA_consF (pv_lst (pvA_consF (pv_var 1) pvA_nil)) (pvA_consF (pv_ix ix_seq sem_ix (pv_var 1) pv_int) pvA_nil))))))))))))
  (pvB_one (pv_ret (pv_ix ix_seq sem_ix (pv_var 4) (pv_callC c__law_digit (by decide) hr (by rfl) (L2N.takes_of rfl rfl rfl rfl) (pvA_consV (pv_var 0) (pvA_consF pv_int pvA_nil))))))) pvB_nil)
  (pvB_cons (pv_if (pvT_cmp op_lt sem_lt (pv_var 3) pv_int (nomark _)) (pvB_one (pv_ret (pv_bin op_addA sem_add (pv_bin op_addA sem_add (pv_slice (pv_var 1) pvP_none (pvP_some (pv_var 2))) (pv_lst (pvA_consF (pv_callC c__law_odd (by decide) hr (by rfl) (L2N.takes_of rfl rfl rfl rfl) (pvA_consV (pv_var 0) (pvA_consF (pv_ix ix_seq sem_ix (pv_var 1) (pv_var 2)) pvA_nil))) pvA_nil))) (pv_slice (pv_var 1) (pvP_some (pv_bin op_addA sem_add (pv_var 2) pv_int)) pvP_none)))) pvB_nil)
  (pvB_cons (pv_if (pvT_cmp (op_eqD hr.units) sem_eq (pv_var 3) pv_int (nomark _)) (pvB_one (pv_ret (pv_bin op_addA sem_add (pv_bin op_addA sem_add (pv_slice (pv_var 1) pvP_none (pvP_some (pv_var 2))) (pv_lst (pvA_consF (pv_ix ix_seq sem_ix (pv_var 1) (pv_var 2)) pvA_nil))) (pv_slice (pv_var 1) (pvP_some (pv_var 2)) pvP_none)))) pvB_nil)
  (pvB_cons (pv_if (pvT_cmp (op_eqD hr.units) sem_eq (pv_var 3) pv_int (nomark _)) (pvB_one (pv_ret (pv_bin op_addA sem_add (pv_bin op_addA sem_add (pv_slice (pv_var 1) pvP_none (pvP_some (pv_var 2))) (pv_lst (pvA_consF (pv_tup (pvA_consF (pv_bin op_sub sem_sub pv_int (pv_ix ix_seq sem_ix (pv_ix ix_seq sem_ix (pv_var 1) (pv_var 2)) pv_int)) (pvA_consF (pv_bin op_sub sem_sub pv_int (pv_ix ix_seq sem_ix (pv_ix ix_seq sem_ix (pv_var 1) (pv_var 2)) pv_int)) pvA_nil))) pvA_nil))) (pv_slice (pv_var 1) (pvP_some (pv_bin op_addA sem_add (pv_var 2) pv_int)) pvP_none)))) pvB_nil)
  (pvB_cons (pv_if (pvT_cmp (op_eqD hr.units) sem_eq (pv_var 3) pv_int (nomark _)) (pvB_one (pv_ret (pv_bin op_addA sem_add (pv_bin op_addA sem_add (pv_revL (pv_slice (pv_var 1) (pvP_some (pv_var 2)) (pvP_some (pv_bin op_addA sem_add (pv_var 2) pv_int)))) (pv_slice (pv_var 1) pvP_none (pvP_some (pv_var 2)))) (pv_slice (pv_var 1) (pvP_some (pv_bin op_addA sem_add (pv_var 2) pv_int)) pvP_none)))) pvB_nil)
  (pvB_cons (pv_if (pvT_cmp (op_eqD hr.units) sem_eq (pv_var 3) pv_int (nomark _)) (pvB_one (pv_ret (pv_revL (pv_var 1)))) pvB_nil)
  (pvB_cons (pv_if (pvT_cmp (op_eqD hr.units) sem_eq (pv_var 3) pv_int (nomark _)) (pvB_one (pv_ret (pv_bin op_addA sem_add (pv_slice (pv_var 1) pvP_none (pvP_some (pv_var 2))) (pv_slice (pv_var 1) (pvP_some (pv_bin op_addA sem_add (pv_var 2) pv_int)) pvP_none)))) pvB_nil)
  (pvB_cons (pv_if (pvT_cmp (op_eqD hr.units) sem_eq (pv_var 3) pv_int (nomark _)) (pvB_one (pv_ret (pv_bin op_addA sem_add (pv_slice (pv_var 1) pvP_none (pvP_some (pv_var 2))) (pv_slice (pv_var 1) (pvP_some (pv_bin op_addA sem_add (pv_var 2) pv_int)) pvP_none)))) pvB_nil)
  (pvB_one (pv_ret (pv_bin op_addA sem_add (pv_slice (pv_var 1) (pvP_some (pv_var 2)) pvP_none) (pv_slice (pv_var 1) pvP_none (pvP_some (pv_var 2)))))))))))))))))) vc__law_bent
abbrev s__law_led : Stmt := topS 34
theorem sc__law_led : FnScope N__law_led ["_law_turning_here", "_law_pair"] (defScope s__law_led) := ⟨rfl, rfl, rfl, by decide +kernel, rfl, by decide +kernel, by decide +kernel⟩
theorem ok__law_led (d : Dfn K mg "_law_led" s__law_led ["_law_turning_here", "_law_pair"]) : Cal P w K mg base 1 "_law_led" ["_law_turning_here", "_law_pair"] [] sp__law_led :=
  cal_of d sc__law_led len__law_led (fun f cdv A outer s H E hr =>
  (pvB_cons (pv_asg (pv_var 0) (pvG_tup rfl (pvGs_cons (pvG_name 2 sc__law_led.nd rfl (.inl rfl)) (pvGs_cons (pvG_name 3 sc__law_led.nd rfl (.inl rfl)) pvGs_nil))))
  (pvB_one (pv_ret (pv_tup (pvA_consF (pv_bin op_addA sem_add (pv_bin op_mulB sem_mul (pv_ix ix_seq sem_ix (pv_var 2) pv_int) (pv_ix ix_seq sem_ix (pv_var 1) pv_int)) (pv_bin op_mulB sem_mul (pv_ix ix_seq sem_ix (pv_var 2) pv_int) (pv_ix ix_seq sem_ix (pv_var 1) pv_int))) (pvA_consF (pv_bin op_addA sem_add (pv_bin op_mulB sem_mul (pv_ix ix_seq sem_ix (pv_var 3) pv_int) (pv_ix ix_seq sem_ix (pv_var 1) pv_int)) (pv_bin op_mulB sem_mul (pv_ix ix_seq sem_ix (pv_var 3) pv_int) (pv_ix ix_seq sem_ix (pv_var 1) pv_int))) pvA_nil))))))) vc__law_led
abbrev s__law_cross : Stmt := topS 37
theorem sc__law_cross : FnScope N__law_cross ["_law_one", "_law_other"] (defScope s__law_cross) := ⟨rfl, rfl, rfl, by decide +kernel, rfl, by decide +kernel, by decide +kernel⟩
theorem ok__law_cross (d : Dfn K mg "_law_cross" s__law_cross ["_law_one", "_law_other"]) : Cal P w K mg base 1 "_law_cross" ["_law_one", "_law_other"] [] sp__law_cross :=
  cal_of d sc__law_cross len__law_cross (fun f cdv A outer s H E hr =>
  (pvB_one (pv_ret (pv_bin op_sub sem_sub (pv_bin op_mulB sem_mul (pv_ix ix_seq sem_ix (pv_var 0) pv_int) (pv_ix ix_seq sem_ix (pv_var 1) pv_int)) (pv_bin op_mulB sem_mul (pv_ix ix_seq sem_ix (pv_var 0) pv_int) (pv_ix ix_seq sem_ix (pv_var 1) pv_int)))))) vc__law_cross
abbrev s__law_near : Stmt := topS 39
theorem sc__law_near : FnScope N__law_near ["_law_pair"] (defScope s__law_near) := ⟨rfl, rfl, rfl, by decide +kernel, rfl, by decide +kernel, by decide +kernel⟩
theorem ok__law_near (d : Dfn K mg "_law_near" s__law_near ["_law_pair"]) (z_abs : mg "abs" = none) : Cal P w K mg base 1 "_law_near" ["_law_pair"] [] sp__law_near :=
  cal_of d sc__law_near len__law_near (fun f cdv A outer s H E hr =>
  (pvB_one (pv_ret (pv_and (pv_cmp op_le sem_le (pv_blt call_abs sem_abs (by rfl) z_abs (by decide +kernel) (pvA_consV (pv_ix ix_seq sem_ix (pv_var 0) pv_int) pvA_nil)) pv_int (nomark _)) (pv_one (pv_cmp op_le sem_le (pv_blt call_abs sem_abs (by rfl) z_abs (by decide +kernel) (pvA_consV (pv_ix ix_seq sem_ix (pv_var 0) pv_int) pvA_nil)) pv_int (nomark _))))))) vc__law_near
abbrev s__law_brought : Stmt := topS 40
theorem sc__law_brought : FnScope N__law_brought ["_law_rays", "_law_turning_here", "_law_start"] (defScope s__law_brought) := ⟨rfl, rfl, rfl, by decide +kernel, rfl, by decide +kernel, by decide +kernel⟩
theorem ok__law_brought (d : Dfn K mg "_law_brought" s__law_brought ["_law_rays", "_law_turning_here", "_law_start"]) (c__law_led : Cal P w K mg base 1 "_law_led" ["_law_turning_here", "_law_pair"] [] sp__law_led) (c__law_near : Cal P w K mg base 1 "_law_near" ["_law_pair"] [] sp__law_near) (c__law_cross : Cal P w K mg base 1 "_law_cross" ["_law_one", "_law_other"] [] sp__law_cross) (z_all : mg "all" = none) (z_list : mg "list" = none) : Cal P w K mg base 2 "_law_brought" ["_law_rays", "_law_turning_here", "_law_start"] [] sp__law_brought :=
  cal_of d sc__law_brought len__law_brought (fun f cdv A outer s H E hr =>
  (pvB_cons (pv_setLcF 3 [0, 1, 2, 3] rfl sc__law_brought.nd rfl rfl (sw_true rfl rfl rfl (by decide +kernel)) (pvI_list (pv_var 0)) (blkOk_by (own := [("_law_ray", 4)]) (N := N__law_brought) (show blkC N__law_brought (defScope s__law_brought) _ _ = true by decide +kernel)) (fun _ _ _ _ _ => (pvG_name 4 sc__law_brought.nd rfl (.inl rfl))) (fun _ _ _ _ _ => pvTs_nil) (fun _ _ _ _ _ => (pv_callC c__law_led (by decide) hr (by rfl) takes0N (pvA_consF (pv_var 1) (pvA_consF (pv_var 4) pvA_nil)))))
  (pvB_cons (pv_if (pvT_not (pvT_val (pv_blt (cr_all rfl) sem_all (by rfl) z_all (by decide +kernel) (pvA_consV (pv_lc [0, 1, 2, 3] rfl sc__law_brought.nd (pvI_list (pv_var 3)) (blkOk_by (own := [("_law_ray", 4)]) (N := N__law_brought) (show blkC N__law_brought (defScope s__law_brought) _ _ = true by decide +kernel)) (fun _ _ _ _ _ => (pvG_name 4 sc__law_brought.nd rfl (.inl rfl))) (fun _ _ _ _ _ => pvTs_nil) (fun _ _ _ _ _ => (pv_callC c__law_near (by decide) hr (by rfl) takes0N (pvA_consF (pv_var 4) pvA_nil)))) pvA_nil)))) (pvB_one (pv_setF 3 sc__law_brought.nd rfl (.inl rfl) (pv_ty call_list_of sem_list (by rfl) z_list (by decide +kernel) (pvA_consV (pv_var 0) pvA_nil)))) (pvB_one (pv_if (pvT_cmp op_lt sem_lt (pv_callC c__law_cross (by decide) hr (by rfl) (L2N.takes_of rfl rfl rfl rfl) (pvA_consF (pv_ix ix_seq sem_ix (pv_var 3) pv_int) (pvA_consF (pv_ix ix_seq sem_ix (pv_var 3) pv_int) pvA_nil))) pv_int (nomark _)) (pvB_one (pv_setF 3 sc__law_brought.nd rfl (.inl rfl) (pv_revL (pv_var 3)))) pvB_nil)))
  (pvB_one (pv_ret (pv_bin op_addA sem_add (pv_slice (pv_var 3) (pvP_some (pv_var 2)) pvP_none) (pv_slice (pv_var 3) pvP_none (pvP_some (pv_var 2))))))))) vc__law_brought
abbrev s__law_sum : Stmt := topS 38
theorem sc__law_sum : FnScope N__law_sum ["_law_one", "_law_other"] (defScope s__law_sum) := ⟨rfl, rfl, rfl, by decide +kernel, rfl, by decide +kernel, by decide +kernel⟩
theorem ok__law_sum (d : Dfn K mg "_law_sum" s__law_sum ["_law_one", "_law_other"]) : Cal P w K mg base 1 "_law_sum" ["_law_one", "_law_other"] [] sp__law_sum :=
  cal_of d sc__law_sum len__law_sum (fun f cdv A outer s H E hr =>
  (pvB_one (pv_ret (pv_tup (pvA_consF (pv_bin op_addA sem_add (pv_ix ix_seq sem_ix (pv_var 0) pv_int) (pv_ix ix_seq sem_ix (pv_var 1) pv_int)) (pvA_consF (pv_bin op_addA sem_add (pv_ix ix_seq sem_ix (pv_var 0) pv_int) (pv_ix ix_seq sem_ix (pv_var 1) pv_int)) pvA_nil)))))) vc__law_sum
abbrev s__law_both : Stmt := topS 35
theorem sc__law_both : FnScope N__law_both ["_law_one", "_law_other"] (defScope s__law_both) := ⟨rfl, rfl, rfl, by decide +kernel, rfl, by decide +kernel, by decide +kernel⟩
theorem ok__law_both (d : Dfn K mg "_law_both" s__law_both ["_law_one", "_law_other"]) (c__law_led : Cal P w K mg base 1 "_law_led" ["_law_turning_here", "_law_pair"] [] sp__law_led) : Cal P w K mg base 2 "_law_both" ["_law_one", "_law_other"] [] sp__law_both :=
  cal_of d sc__law_both len__law_both (fun f cdv A outer s H E hr =>
  (pvB_cons (pv_setF 2 sc__law_both.nd rfl (.inl rfl) (pv_callC c__law_led (by decide) hr (by rfl) (L2N.takes_of rfl rfl rfl rfl) (pvA_consF (pv_var 1) (pvA_consF (pv_tup (pvA_consF (pv_ix ix_seq sem_ix (pv_ix ix_seq sem_ix (pv_var 0) pv_int) pv_int) (pvA_consF (pv_ix ix_seq sem_ix (pv_ix ix_seq sem_ix (pv_var 0) pv_int) pv_int) pvA_nil))) pvA_nil))))
  (pvB_cons (pv_setF 3 sc__law_both.nd rfl (.inl rfl) (pv_callC c__law_led (by decide) hr (by rfl) (L2N.takes_of rfl rfl rfl rfl) (pvA_consF (pv_var 1) (pvA_consF (pv_tup (pvA_consF (pv_ix ix_seq sem_ix (pv_ix ix_seq sem_ix (pv_var 0) pv_int) pv_int) (pvA_consF (pv_ix ix_seq sem_ix (pv_ix ix_seq sem_ix (pv_var 0) pv_int) pv_int) pvA_nil))) pvA_nil))))
  (pvB_one (pv_ret (pv_tup (pvA_consF (pv_tup (pvA_consF (pv_ix ix_seq sem_ix (pv_var 2) pv_int) (pvA_consF (pv_ix ix_seq sem_ix (pv_var 3) pv_int) pvA_nil))) (pvA_consF (pv_tup (pvA_consF (pv_ix ix_seq sem_ix (pv_var 2) pv_int) (pvA_consF (pv_ix ix_seq sem_ix (pv_var 3) pv_int) pvA_nil))) pvA_nil)))))))) vc__law_both
abbrev s__law_turning : Stmt := topS 36
theorem sc__law_turning : FnScope N__law_turning ["_law_bag_here"] (defScope s__law_turning) := ⟨rfl, rfl, rfl, by decide +kernel, rfl, by decide +kernel, by decide +kernel⟩
theorem ok__law_turning (d : Dfn K mg "_law_turning" s__law_turning ["_law_bag_here"]) (c__law_digit : Cal P w K mg base 1 "_law_digit" ["_law_bag_here", "_law_many"] [0] sp__law_digit) (c__law_both : Cal P w K mg base 2 "_law_both" ["_law_one", "_law_other"] [] sp__law_both) (z_range : mg "range" = none) : Cal P w K mg base 3 "_law_turning" ["_law_bag_here"] [0] sp__law_turning :=
  cal_of d sc__law_turning len__law_turning (fun f cdv A outer s H E hr =>
  (pvB_cons (pv_set 1 sc__law_turning.nd rfl (.inl rfl) (pv_tup (pvA_consF (pv_tup (pvA_consF pv_int (pvA_consF pv_int pvA_nil))) (pvA_consF (pv_tup (pvA_consF pv_int (pvA_consF pv_int pvA_nil))) pvA_nil))))
  (pvB_cons (pv_for (passes_of rfl) rfl (pvI_range1 (by rfl) z_range (pvA_consF (pv_callC c__law_digit (by decide) hr (by rfl) (L2N.takes_of rfl rfl rfl rfl) (pvA_consV (pv_var 0) (pvA_consF pv_int pvA_nil))) pvA_nil)) (pvG_name 2 sc__law_turning.nd rfl (.inl rfl)) (pvB_cons (pv_set 3 sc__law_turning.nd rfl (.inl rfl) (pv_bin op_sub sem_sub (pv_callC c__law_digit (by decide) hr (by rfl) (L2N.takes_of rfl rfl rfl rfl) (pvA_consV (pv_var 0) (pvA_consF pv_int pvA_nil))) pv_int))
  (pvB_cons (pv_setF 4 sc__law_turning.nd rfl (.inl rfl) (pv_lst (pvA_consF (pv_tup (pvA_consF (pv_tup (pvA_consF pv_int (pvA_consF (pv_var 3) pvA_nil))) (pvA_consF (pv_tup (pvA_consF pv_int (pvA_consF pv_int pvA_nil))) pvA_nil))) (pvA_consF (pv_tup (pvA_consF (pv_tup (pvA_consF pv_int (pvA_consF pv_int pvA_nil))) (pvA_consF (pv_tup (pvA_consF (pv_var 3) (pvA_consF pv_int pvA_nil))) pvA_nil))) (pvA_consF (pv_tup (pvA_consF (pv_tup (pvA_consF pv_int (pvA_consF pv_int pvA_nil))) (pvA_consF (pv_tup (pvA_consF pv_int (pvA_consF pv_int pvA_nil))) pvA_nil))) (pvA_consF (pv_tup (pvA_consF (pv_tup (pvA_consF pv_int (pvA_consF (pv_un un_neg sem_neg pv_int) pvA_nil))) (pvA_consF (pv_tup (pvA_consF pv_int (pvA_consF pv_int pvA_nil))) pvA_nil))) pvA_nil))))))
  (pvB_one (pv_setF 1 sc__law_turning.nd rfl (.inl rfl) (pv_callC c__law_both (by decide) hr (by rfl) (L2N.takes_of rfl rfl rfl rfl) (pvA_consF (pv_var 1) (pvA_consF (pv_ix ix_seq sem_ix (pv_var 4) (pv_callC c__law_digit (by decide) hr (by rfl) (L2N.takes_of rfl rfl rfl rfl) (pvA_consV (pv_var 0) (pvA_consF pv_int pvA_nil)))) pvA_nil))))))))
  (pvB_one (pv_ret (pv_var 1)))))) vc__law_turning
abbrev s__law_smooth : Stmt := topS 41
theorem sc__law_smooth : FnScope N__law_smooth ["_law_bag_here"] (defScope s__law_smooth) := ⟨rfl, rfl, rfl, by decide +kernel, rfl, by decide +kernel, by decide +kernel⟩
theorem ok__law_smooth (d : Dfn K mg "_law_smooth" s__law_smooth ["_law_bag_here"]) (c__law_digit : Cal P w K mg base 1 "_law_digit" ["_law_bag_here", "_law_many"] [0] sp__law_digit) (c__law_sum : Cal P w K mg base 1 "_law_sum" ["_law_one", "_law_other"] [] sp__law_sum) (c__law_near : Cal P w K mg base 1 "_law_near" ["_law_pair"] [] sp__law_near) (c__law_brought : Cal P w K mg base 2 "_law_brought" ["_law_rays", "_law_turning_here", "_law_start"] [] sp__law_brought) (c__law_turning : Cal P w K mg base 3 "_law_turning" ["_law_bag_here"] [0] sp__law_turning) (z_range : mg "range" = none) (z_len : mg "len" = none) : Cal P w K mg base 4 "_law_smooth" ["_law_bag_here"] [0] sp__law_smooth :=
  cal_of d sc__law_smooth len__law_smooth (fun f cdv A outer s H E hr =>
  (pvB_cons (pv_setF 1 sc__law_smooth.nd rfl (.inl rfl) (pv_callC c__law_digit (by decide) hr (by rfl) (L2N.takes_of rfl rfl rfl rfl) (pvA_consV (pv_var 0) (pvA_consF (pv_ix ix_seq sem_ix (pv_lst (pvA_consF pv_int (pvA_consF pv_int (pvA_consF pv_int (pvA_consF pv_int (pvA_consF pv_int (pvA_consF pv_int (pvA_consF pv_int (pvA_consF pv_int pvA_nil))))))))) (pv_callC c__law_digit (by decide) hr (by rfl) (L2N.takes_of rfl rfl rfl rfl) (pvA_consV (pv_var 0) (pvA_consF pv_int pvA_nil)))) pvA_nil))))
  (pvB_cons (pv_set 2 sc__law_smooth.nd rfl (.inl rfl) (pv_ix ix_seq sem_ix (pv_lst (pvA_consF (pv_lst (pvA_consF (pv_tup (pvA_consF pv_int (pvA_consF pv_int pvA_nil))) (pvA_consF (pv_tup (pvA_consF pv_int (pvA_consF pv_int pvA_nil))) (pvA_consF (pv_tup (pvA_consF (pv_un un_neg sem_neg pv_int) (pvA_consF (pv_un un_neg sem_neg pv_int) pvA_nil))) pvA_nil)))) (pvA_consF (pv_lst (pvA_consF (pv_tup (pvA_consF pv_int (pvA_consF pv_int pvA_nil))) (pvA_consF (pv_tup (pvA_consF pv_int (pvA_consF pv_int pvA_nil))) (pvA_consF (pv_tup (pvA_consF (pv_un un_neg sem_neg pv_int) (pvA_consF (pv_var 1) pvA_nil))) (pvA_consF (pv_tup (pvA_consF pv_int (pvA_consF (pv_un un_neg sem_neg pv_int) pvA_nil))) pvA_nil))))) pvA_nil))) (pv_callC c__law_digit (by decide) hr (by rfl) (L2N.takes_of rfl rfl rfl rfl) (pvA_consV (pv_var 0) (pvA_consF pv_int pvA_nil)))))
  (pvB_cons (pv_for (passes_of rfl) rfl (pvI_range1 (by rfl) z_range (pvA_consF (pv_callC c__law_digit (by decide) hr (by rfl) (L2N.takes_of rfl rfl rfl rfl) (pvA_consV (pv_var 0) (pvA_consF (pv_ix ix_seq sem_ix (pv_lst (pvA_consF pv_int (pvA_consF pv_int (pvA_consF pv_int (pvA_consF pv_int pvA_nil))))) (pv_callC c__law_digit (by decide) hr (by rfl) (L2N.takes_of rfl rfl rfl rfl) (pvA_consV (pv_var 0) (pvA_consF pv_int pvA_nil)))) pvA_nil))) pvA_nil)) (pvG_name 3 sc__law_smooth.nd rfl (.inl rfl)) (pvB_cons (pv_setF 4 sc__law_smooth.nd rfl (.inl rfl) (pv_callC c__law_digit (by decide) hr (by rfl) (L2N.takes_of rfl rfl rfl rfl) (pvA_consV (pv_var 0) (pvA_consF (pv_blt call_len_seq sem_len (by rfl) z_len (by decide +kernel) (pvA_consV (pv_var 2) pvA_nil)) pvA_nil))))
  (pvB_cons (pv_setF 5 sc__law_smooth.nd rfl (.inl rfl) (pv_callC c__law_sum (by decide) hr (by rfl) (L2N.takes_of rfl rfl rfl rfl) (pvA_consF (pv_ix ix_seq sem_ix (pv_var 2) (pv_var 4)) (pvA_consF (pv_ix ix_seq sem_ix (pv_var 2) (pv_bin op_modN sem_mod (pv_bin op_addA sem_add (pv_var 4) pv_int) (pv_blt call_len_seq sem_len (by rfl) z_len (by decide +kernel) (pvA_consV (pv_var 2) pvA_nil)))) pvA_nil))))
  (pvB_one (pv_if (PW.pt (pvW_and (pvT_val (pv_callC c__law_near (by decide) hr (by rfl) (L2N.takes_of rfl rfl rfl rfl) (pvA_consF (pv_var 5) pvA_nil))) (pvW_and1 (pvT_cmp op_lt sem_lt (pv_blt call_len_seq sem_len (by rfl) z_len (by decide +kernel) (pvA_consV (pv_var 2) pvA_nil)) pv_int (nomark _))))) (pvB_one (pv_setF 2 sc__law_smooth.nd rfl (.inl rfl) (pv_bin op_addA sem_add (pv_bin op_addA sem_add (pv_slice (pv_var 2) pvP_none (pvP_some (pv_bin op_addA sem_add (pv_var 4) pv_int))) (pv_lst (pvA_consF (pv_var 5) pvA_nil))) (pv_slice (pv_var 2) (pvP_some (pv_bin op_addA sem_add (pv_var 4) pv_int)) pvP_none)))) pvB_nil)))))
  (pvB_cons (pv_setF 6 sc__law_smooth.nd rfl (.inl rfl) (pv_callC c__law_digit (by decide) hr (by rfl) (L2N.takes_of rfl rfl rfl rfl) (pvA_consV (pv_var 0) (pvA_consF (pv_blt call_len_seq sem_len (by rfl) z_len (by decide +kernel) (pvA_consV (pv_var 2) pvA_nil)) pvA_nil))))
  (pvB_one (pv_ret (pv_callC c__law_brought (by decide) hr (by rfl) (L2N.takes_of rfl rfl rfl rfl) (pvA_consF (pv_var 2) (pvA_consF (pv_callC c__law_turning (by decide) hr (by rfl) (L2N.takes_of rfl rfl rfl rfl) (pvA_consV (pv_var 0) pvA_nil)) (pvA_consF (pv_var 6) pvA_nil))))))))))) vc__law_smooth
abbrev s__law_put : Stmt := topS 43
theorem sc__law_put : FnScope N__law_put ["_law_rays", "_law_ray"] (defScope s__law_put) := ⟨rfl, rfl, rfl, by decide +kernel, rfl, by decide +kernel, by decide +kernel⟩
theorem ok__law_put (d : Dfn K mg "_law_put" s__law_put ["_law_rays", "_law_ray"]) (c__law_cross : Cal P w K mg base 1 "_law_cross" ["_law_one", "_law_other"] [] sp__law_cross) (z_range : mg "range" = none) (z_len : mg "len" = none) : Cal P w K mg base 2 "_law_put" ["_law_rays", "_law_ray"] [] sp__law_put :=
  cal_of d sc__law_put len__law_put (fun f cdv A outer s H E hr =>
  (pvB_cons (pv_for (passes_of rfl) rfl (pvI_range1 (by rfl) z_range (pvA_consF (pv_blt call_len_seq sem_len (by rfl) z_len (by decide +kernel) (pvA_consV (pv_var 0) pvA_nil)) pvA_nil)) (pvG_name 2 sc__law_put.nd rfl (.inl rfl)) (pvB_cons (pv_set 3 sc__law_put.nd rfl (.inl rfl) (pv_ix ix_seq sem_ix (pv_var 0) (pv_bin op_modN sem_mod (pv_bin op_addA sem_add (pv_var 2) pv_int) (pv_blt call_len_seq sem_len (by rfl) z_len (by decide +kernel) (pvA_consV (pv_var 0) pvA_nil)))))
  (pvB_one (pv_if (PW.pt (pvW_and (pvT_cmp op_gt sem_gt (pv_callC c__law_cross (by decide) hr (by rfl) (L2N.takes_of rfl rfl rfl rfl) (pvA_consF (pv_ix ix_seq sem_ix (pv_var 0) (pv_var 2)) (pvA_consF (pv_var 1) pvA_nil))) pv_int (nomark _)) (pvW_and1 (pvT_cmp op_gt sem_gt (pv_callC c__law_cross (by decide) hr (by rfl) (L2N.takes_of rfl rfl rfl rfl) (pvA_consF (pv_var 1) (pvA_consF (pv_var 3) pvA_nil))) pv_int (nomark _))))) (pvB_one (pv_ret (pv_bin op_addA sem_add (pv_bin op_addA sem_add (pv_slice (pv_var 0) pvP_none (pvP_some (pv_bin op_addA sem_add (pv_var 2) pv_int))) (pv_lst (pvA_consF (pv_var 1) pvA_nil))) (pv_slice (pv_var 0) (pvP_some (pv_bin op_addA sem_add (pv_var 2) pv_int)) pvP_none)))) pvB_nil))))
  (pvB_one (pv_ret (pv_var 0))))) vc__law_put
abbrev s__law_straight : Stmt := topS 42
theorem sc__law_straight : FnScope N__law_straight ["_law_pair"] (defScope s__law_straight) := ⟨rfl, rfl, rfl, by decide +kernel, rfl, by decide +kernel, by decide +kernel⟩
theorem ok__law_straight (d : Dfn K mg "_law_straight" s__law_straight ["_law_pair"]) (z_abs : mg "abs" = none) : Cal P w K mg base 1 "_law_straight" ["_law_pair"] [] sp__law_straight :=
  cal_of d sc__law_straight len__law_straight (fun f cdv A outer s H E hr =>
  (pvB_cons (pv_par 1 2 rfl sc__law_straight.nd rfl rfl (by decide) rfl rfl (pvA_consF (pv_blt call_abs sem_abs (by rfl) z_abs (by decide +kernel) (pvA_consV (pv_ix ix_seq sem_ix (pv_var 0) pv_int) pvA_nil)) (pvA_consF (pv_blt call_abs sem_abs (by rfl) z_abs (by decide +kernel) (pvA_consV (pv_ix ix_seq sem_ix (pv_var 0) pv_int) pvA_nil)) pvA_nil)) (by rfl))
  (pvB_cons (pv_while (passes_of rfl) (pvT_cmp op_gt sem_gt (pv_var 2) pv_int (nomark _)) (pvB_one (pv_par 1 2 rfl sc__law_straight.nd rfl rfl (by decide) rfl rfl (pvA_consF (pv_var 2) (pvA_consF (pv_bin op_modN sem_mod (pv_var 1) (pv_var 2)) pvA_nil)) (by rfl))))
  (pvB_one (pv_ret (pv_tup (pvA_consF (pv_bin op_divB sem_div (pv_ix ix_seq sem_ix (pv_var 0) pv_int) (pv_var 1)) (pvA_consF (pv_bin op_divB sem_div (pv_ix ix_seq sem_ix (pv_var 0) pv_int) (pv_var 1)) pvA_nil)))))))) vc__law_straight
abbrev s__law_any : Stmt := topS 44
theorem sc__law_any : FnScope N__law_any ["_law_bag_here"] (defScope s__law_any) := ⟨rfl, rfl, rfl, by decide +kernel, rfl, by decide +kernel, by decide +kernel⟩
theorem ok__law_any (d : Dfn K mg "_law_any" s__law_any ["_law_bag_here"]) (c__law_smooth : Cal P w K mg base 4 "_law_smooth" ["_law_bag_here"] [0] sp__law_smooth) (c__law_digit : Cal P w K mg base 1 "_law_digit" ["_law_bag_here", "_law_many"] [0] sp__law_digit) (c__law_put : Cal P w K mg base 2 "_law_put" ["_law_rays", "_law_ray"] [] sp__law_put) (c__law_straight : Cal P w K mg base 1 "_law_straight" ["_law_pair"] [] sp__law_straight) (c__law_cross : Cal P w K mg base 1 "_law_cross" ["_law_one", "_law_other"] [] sp__law_cross) (z_range : mg "range" = none) (z_len : mg "len" = none) : Cal P w K mg base 5 "_law_any" ["_law_bag_here"] [0] sp__law_any :=
  cal_of d sc__law_any len__law_any (fun f cdv A outer s H E hr =>
  (pvB_cons (pv_setF 1 sc__law_any.nd rfl (.inl rfl) (pv_callC c__law_smooth (by decide) hr (by rfl) (L2N.takes_of rfl rfl rfl rfl) (pvA_consV (pv_var 0) pvA_nil)))
  (pvB_cons (pv_set 2 sc__law_any.nd rfl (.inl rfl) (pv_ix ix_seq sem_ix (pv_lst (pvA_consF pv_int (pvA_consF pv_int (pvA_consF pv_int (pvA_consF pv_int (pvA_consF pv_int (pvA_consF pv_int (pvA_consF pv_int (pvA_consF pv_int pvA_nil))))))))) (pv_callC c__law_digit (by decide) hr (by rfl) (L2N.takes_of rfl rfl rfl rfl) (pvA_consV (pv_var 0) (pvA_consF pv_int pvA_nil)))))
  (pvB_cons (pv_for (passes_of rfl) rfl (pvI_range1 (by rfl) z_range (pvA_consF (pv_callC c__law_digit (by decide) hr (by rfl) (L2N.takes_of rfl rfl rfl rfl) (pvA_consV (pv_var 0) (pvA_consF pv_int pvA_nil))) pvA_nil)) (pvG_name 3 sc__law_any.nd rfl (.inl rfl)) (pvB_cons (pv_set 4 sc__law_any.nd rfl (.inl rfl) (pv_bin op_sub sem_sub (pv_callC c__law_digit (by decide) hr (by rfl) (L2N.takes_of rfl rfl rfl rfl) (pvA_consV (pv_var 0) (pvA_consF (pv_var 2) pvA_nil))) (pv_bin op_divB sem_div (pv_var 2) pv_int)))
  (pvB_cons (pv_set 5 sc__law_any.nd rfl (.inl rfl) (pv_bin op_sub sem_sub (pv_callC c__law_digit (by decide) hr (by rfl) (L2N.takes_of rfl rfl rfl rfl) (pvA_consV (pv_var 0) (pvA_consF (pv_var 2) pvA_nil))) (pv_bin op_divB sem_div (pv_var 2) pv_int)))
  (pvB_one (pv_if (PW.pt (pvW_and (pvT_cmp (op_neD hr.units) sem_ne (pv_tup (pvA_consF (pv_var 4) (pvA_consF (pv_var 5) pvA_nil))) (pv_tup (pvA_consF pv_int (pvA_consF pv_int pvA_nil))) (nomark _)) (pvW_and1 (pvT_cmp op_lt sem_lt (pv_blt call_len_seq sem_len (by rfl) z_len (by decide +kernel) (pvA_consV (pv_var 1) pvA_nil)) pv_int (nomark _))))) (pvB_one (pv_setF 1 sc__law_any.nd rfl (.inl rfl) (pv_callC c__law_put (by decide) hr (by rfl) (L2N.takes_of rfl rfl rfl rfl) (pvA_consF (pv_var 1) (pvA_consF (pv_callC c__law_straight (by decide) hr (by rfl) (L2N.takes_of rfl rfl rfl rfl) (pvA_consF (pv_tup (pvA_consF (pv_var 4) (pvA_consF (pv_var 5) pvA_nil))) pvA_nil)) pvA_nil))))) pvB_nil)))))
  (pvB_cons (pv_for (passes_of rfl) rfl (pvI_range1 (by rfl) z_range (pvA_consF (pv_callC c__law_digit (by decide) hr (by rfl) (L2N.takes_of rfl rfl rfl rfl) (pvA_consV (pv_var 0) (pvA_consF pv_int pvA_nil))) pvA_nil)) (pvG_name 3 sc__law_any.nd rfl (.inl rfl)) (pvB_cons (pv_setF 6 sc__law_any.nd rfl (.inl rfl) (pv_callC c__law_digit (by decide) hr (by rfl) (L2N.takes_of rfl rfl rfl rfl) (pvA_consV (pv_var 0) (pvA_consF (pv_blt call_len_seq sem_len (by rfl) z_len (by decide +kernel) (pvA_consV (pv_var 1) pvA_nil)) pvA_nil))))
  (pvB_one (pv_if (PW.pt (pvW_and (pvT_cmp op_gt sem_gt (pv_blt call_len_seq sem_len (by rfl) z_len (by decide +kernel) (pvA_consV (pv_var 1) pvA_nil)) pv_int (nomark _)) (pvW_and1 (pvT_cmp op_gt sem_gt (pv_callC c__law_cross (by decide) hr (by rfl) (L2N.takes_of rfl rfl rfl rfl) (pvA_consF (pv_ix ix_seq sem_ix (pv_var 1) (pv_bin op_sub sem_sub (pv_var 6) pv_int)) (pvA_consF (pv_ix ix_seq sem_ix (pv_var 1) (pv_bin op_modN sem_mod (pv_bin op_addA sem_add (pv_var 6) pv_int) (pv_blt call_len_seq sem_len (by rfl) z_len (by decide +kernel) (pvA_consV (pv_var 1) pvA_nil)))) pvA_nil))) pv_int (nomark _))))) (pvB_one (pv_setF 1 sc__law_any.nd rfl (.inl rfl) (pv_bin op_addA sem_add (pv_slice (pv_var 1) pvP_none (pvP_some (pv_var 6))) (pv_slice (pv_var 1) (pvP_some (pv_bin op_addA sem_add (pv_var 6) pv_int)) pvP_none)))) pvB_nil))))
  (pvB_one (pv_ret (pv_var 1)))))))) vc__law_any
abbrev s__law_whole : Stmt := topS 45
theorem sc__law_whole : FnScope N__law_whole ["_law_thing"] (defScope s__law_whole) := ⟨rfl, rfl, rfl, by decide +kernel, rfl, by decide +kernel, by decide +kernel⟩
theorem ok__law_whole (d : Dfn K mg "_law_whole" s__law_whole ["_law_thing"]) (z_isinstance : mg "isinstance" = none) (z_int : mg "int" = none) (z_bool : mg "bool" = none) : Cal P w K mg base 1 "_law_whole" ["_law_thing"] [] sp__law_whole :=
  cal_of d sc__law_whole len__law_whole (fun f cdv A outer s H E hr =>
  (pvB_one (pv_ret (pv_and (pv_isi isK_int (by rfl) z_isinstance (by decide +kernel) (pv_var 0) (by rfl) z_int (by decide +kernel)) (pv_one (pv_not (pv_isi isK_bool (by rfl) z_isinstance (by decide +kernel) (pv_var 0) (by rfl) z_bool (by decide +kernel)))))))) vc__law_whole
theorem okh__law_whole (d : Dfn K mg "_law_whole" s__law_whole ["_law_thing"]) (z_isinstance : mg "isinstance" = none) (z_int : mg "int" = none) (z_bool : mg "bool" = none) : CalP P w K mg base 1 "_law_whole" ["_law_thing"] [] (fun _ _ _ => sp__law_whole) :=
  calP_of (t := (fun _ _ _ => t__law_whole)) d sc__law_whole (fun _ _ _ => len__law_whole) (fun f a dd x oe cdv A outer s H E hr hx =>
  (pvB_one (pv_ret (pv_and (pv_isi isK_int (by rfl) z_isinstance (by decide +kernel) (pv_var 0) (by rfl) z_int (by decide +kernel)) (pv_one (pv_not (pv_isi isK_bool (by rfl) z_isinstance (by decide +kernel) (pv_var 0) (by rfl) z_bool (by decide +kernel)))))))) (fun _ _ _ => vc__law_whole)
abbrev s__law_is_ray : Stmt := topS 47
theorem sc__law_is_ray : FnScope N__law_is_ray ["_law_thing"] (defScope s__law_is_ray) := ⟨rfl, rfl, rfl, by decide +kernel, rfl, by decide +kernel, by decide +kernel⟩
theorem ok__law_is_ray (d : Dfn K mg "_law_is_ray" s__law_is_ray ["_law_thing"]) (c__law_whole : Cal P w K mg base 1 "_law_whole" ["_law_thing"] [] sp__law_whole) (c__law_straight : Cal P w K mg base 1 "_law_straight" ["_law_pair"] [] sp__law_straight) (z_isinstance : mg "isinstance" = none) (z_tuple : mg "tuple" = none) (z_len : mg "len" = none) : Cal P w K mg base 2 "_law_is_ray" ["_law_thing"] [] sp__law_is_ray :=
  cal_of d sc__law_is_ray len__law_is_ray (fun f cdv A outer s H E hr =>
  (pvB_cons (pv_if (PW.pt (pvW_or (pvT_not (pvT_val (pv_isi isK_tuple (by rfl) z_isinstance (by decide +kernel) (pv_var 0) (by rfl) z_tuple (by decide +kernel)))) (pvW_or (pvT_cmp (op_neD hr.units) sem_ne (pv_blt call_len_seq sem_len (by rfl) z_len (by decide +kernel) (pvA_consV (pv_var 0) pvA_nil)) pv_int (nomark _)) (pvW_or (pvT_not (pvT_val (pv_callC c__law_whole (by decide) hr (by rfl) (L2N.takes_of rfl rfl rfl rfl) (pvA_consF (pv_ix ix_seq sem_ix (pv_var 0) pv_int) pvA_nil)))) (pvW_or1 (pvT_not (pvT_val (pv_callC c__law_whole (by decide) hr (by rfl) (L2N.takes_of rfl rfl rfl rfl) (pvA_consF (pv_ix ix_seq sem_ix (pv_var 0) pv_int) pvA_nil))))))))) (pvB_one (pv_ret pv_bl)) pvB_nil)
  (pvB_one (pv_ret (pv_and (pv_cmp (op_neD hr.units) sem_ne (pv_var 0) (pv_tup (pvA_consF pv_int (pvA_consF pv_int pvA_nil))) (nomark _)) (pv_one (pv_cmp (op_eqD hr.units) sem_eq (pv_callC c__law_straight (by decide) hr (by rfl) (L2N.takes_of rfl rfl rfl rfl) (pvA_consF (pv_var 0) pvA_nil)) (pv_var 0) (nomark _)))))))) vc__law_is_ray
abbrev s__law_has_east : Stmt := topS 48
theorem sc__law_has_east : FnScope N__law_has_east ["_law_one", "_law_other"] (defScope s__law_has_east) := ⟨rfl, rfl, rfl, by decide +kernel, rfl, by decide +kernel, by decide +kernel⟩
theorem ok__law_has_east (d : Dfn K mg "_law_has_east" s__law_has_east ["_law_one", "_law_other"]) : Cal P w K mg base 1 "_law_has_east" ["_law_one", "_law_other"] [] sp__law_has_east :=
  cal_of d sc__law_has_east len__law_has_east (fun f cdv A outer s H E hr =>
  (pvB_cons (pv_if (pvT_cmp (op_eqD hr.units) sem_eq (pv_ix ix_seq sem_ix (pv_var 0) pv_int) pv_int (nomark _)) (pvB_one (pv_ret (pv_cmp op_gt sem_gt (pv_ix ix_seq sem_ix (pv_var 0) pv_int) pv_int (nomark _)))) pvB_nil)
  (pvB_one (pv_ret (pv_and (pv_cmp op_lt sem_lt (pv_ix ix_seq sem_ix (pv_var 0) pv_int) pv_int (nomark _)) (pv_one (pv_cmp op_gt sem_gt (pv_ix ix_seq sem_ix (pv_var 1) pv_int) pv_int (nomark _)))))))) vc__law_has_east
abbrev s__law_fault : Stmt := topS 49
theorem sc__law_fault : FnScope N__law_fault ["_law_thing"] (defScope s__law_fault) := ⟨rfl, rfl, rfl, by decide +kernel, rfl, by decide +kernel, by decide +kernel⟩
theorem ok__law_fault (d : Dfn K mg "_law_fault" s__law_fault ["_law_thing"]) (c__law_is_ray : Cal P w K mg base 2 "_law_is_ray" ["_law_thing"] [] sp__law_is_ray) (c__law_cross : Cal P w K mg base 1 "_law_cross" ["_law_one", "_law_other"] [] sp__law_cross) (c__law_has_east : Cal P w K mg base 1 "_law_has_east" ["_law_one", "_law_other"] [] sp__law_has_east) (z_enumerate : mg "enumerate" = none) (z_range : mg "range" = none) (z_len : mg "len" = none) (z_isinstance : mg "isinstance" = none) (z_list : mg "list" = none) (z_int : mg "int" = none) : Cal P w K mg base 3 "_law_fault" ["_law_thing"] [] sp__law_fault :=
  cal_of d sc__law_fault len__law_fault (fun f cdv A outer s H E hr =>
  (pvB_cons (pv_if (PW.pt (pvW_or (pvT_not (pvT_val (pv_isi isK_list (by rfl) z_isinstance (by decide +kernel) (pv_var 0) (by rfl) z_list (by decide +kernel)))) (pvW_or1 (pvT_cmp op_lt sem_lt (pv_blt call_len_seq sem_len (by rfl) z_len (by decide +kernel) (pvA_consV (pv_var 0) pvA_nil)) pv_int (nomark _))))) (pvB_one (pv_ret (pv_tup (pvA_consF pv_str (pvA_consF pv_int pvA_nil))))) pvB_nil)
  (pvB_cons (pv_for (passes_of rfl) rfl (pvI_enum (by rfl) z_enumerate (pvA_consV (pv_var 0) pvA_nil)) (pvG_tup rfl (pvGs_cons (pvG_name 1 sc__law_fault.nd rfl (.inl rfl)) (pvGs_cons (pvG_name 2 sc__law_fault.nd rfl (.inl rfl)) pvGs_nil))) (pvB_one (pv_if (pvT_not (pvT_val (pv_callC c__law_is_ray (by decide) hr (by rfl) (L2N.takes_of rfl rfl rfl rfl) (pvA_consF (pv_var 2) pvA_nil)))) (pvB_one (pv_ret (pv_tup (pvA_consF pv_str (pvA_consF (pv_var 1) pvA_nil))))) pvB_nil)))
  (pvB_cons (pv_for (passes_of rfl) rfl (pvI_enum (by rfl) z_enumerate (pvA_consV (pv_var 0) pvA_nil)) (pvG_tup rfl (pvGs_cons (pvG_name 1 sc__law_fault.nd rfl (.inl rfl)) (pvGs_cons (pvG_name 2 sc__law_fault.nd rfl (.inl rfl)) pvGs_nil))) (pvB_one (pv_if (pvT_cmp op_le sem_le (pv_callC c__law_cross (by decide) hr (by rfl) (L2N.takes_of rfl rfl rfl rfl) (pvA_consF (pv_var 2) (pvA_consF (pv_ix ix_seq sem_ix (pv_var 0) (pv_bin op_modN sem_mod (pv_bin op_addA sem_add (pv_var 1) pv_int) (pv_blt call_len_seq sem_len (by rfl) z_len (by decide +kernel) (pvA_consV (pv_var 0) pvA_nil)))) pvA_nil))) pv_int (nomark _)) (pvB_one (pv_ret (pv_tup (pvA_consF pv_str (pvA_consF (pv_var 1) pvA_nil))))) pvB_nil)))
  (pvB_cons (pv_set 3 sc__law_fault.nd rfl (.inl rfl) pv_int)
  (pvB_cons (pv_for (passes_of rfl) rfl (pvI_range1 (by rfl) z_range (pvA_consF (pv_blt call_len_seq sem_len (by rfl) z_len (by decide +kernel) (pvA_consV (pv_var 0) pvA_nil)) pvA_nil)) (pvG_name 1 sc__law_fault.nd rfl (.inl rfl)) (pvB_one (pv_set 3 sc__law_fault.nd rfl (.inl rfl) (pv_bin op_addA sem_add (pv_var 3) (pv_ty call_int1 sem_int (by rfl) z_int (by decide +kernel) (pvA_consV (pv_callC c__law_has_east (by decide) hr (by rfl) (L2N.takes_of rfl rfl rfl rfl) (pvA_consF (pv_ix ix_seq sem_ix (pv_var 0) (pv_bin op_sub sem_sub (pv_var 1) pv_int)) (pvA_consF (pv_ix ix_seq sem_ix (pv_var 0) (pv_var 1)) pvA_nil))) pvA_nil))))))
  (pvB_cons (pv_if (pvT_cmp op_gt sem_gt (pv_var 3) pv_int (nomark _)) (pvB_one (pv_ret (pv_tup (pvA_consF pv_str (pvA_consF pv_int pvA_nil))))) pvB_nil)
  (pvB_one (pv_ret pv_non))))))))) vc__law_fault
abbrev s_wedges : Stmt := topS 28
theorem sc_wedges : FnScope N_wedges ["rays"] (defScope s_wedges) := ⟨rfl, rfl, rfl, by decide +kernel, rfl, by decide +kernel, by decide +kernel⟩
theorem ok_wedges (d : Dfn K mg "wedges" s_wedges ["rays"]) (z_list : mg "list" = none) (z_zip : mg "zip" = none) : Cal P w K mg base 1 "wedges" ["rays"] [] sp_wedges :=
  cal_of d sc_wedges len_wedges (fun f cdv A outer s H E hr =>
  (pvB_one (pv_ret (pv_lzip rfl (by rfl) z_zip (by rfl) z_list (pvA_consV (pv_var 0) (pvA_consV (pv_bin op_addA sem_add (pv_slice (pv_var 0) (pvP_some pv_int) pvP_none) (pv_slice (pv_var 0) pvP_none (pvP_some pv_int))) pvA_nil)))))) vc_wedges
abbrev s_is_whole : Stmt := topS 18
theorem sc_is_whole : FnScope N_is_whole ["thing"] (defScope s_is_whole) := ⟨rfl, rfl, rfl, by decide +kernel, rfl, by decide +kernel, by decide +kernel⟩
theorem ok_is_whole (d : Dfn K mg "is_whole" s_is_whole ["thing"]) (z_isinstance : mg "isinstance" = none) (z_int : mg "int" = none) (z_bool : mg "bool" = none) : Cal P w K mg base 1 "is_whole" ["thing"] [] sp_is_whole :=
  cal_of d sc_is_whole len_is_whole (fun f cdv A outer s H E hr =>
  (pvB_one (pv_ret (pv_and (pv_isi isK_int (by rfl) z_isinstance (by decide +kernel) (pv_var 0) (by rfl) z_int (by decide +kernel)) (pv_one (pv_not (pv_isi isK_bool (by rfl) z_isinstance (by decide +kernel) (pv_var 0) (by rfl) z_bool (by decide +kernel)))))))) vc_is_whole
abbrev s_is_pair : Stmt := topS 21
theorem sc_is_pair : FnScope N_is_pair ["thing"] (defScope s_is_pair) := ⟨rfl, rfl, rfl, by decide +kernel, rfl, by decide +kernel, by decide +kernel⟩
theorem ok_is_pair (d : Dfn K mg "is_pair" s_is_pair ["thing"]) (c_is_whole : Cal P w K mg base 1 "is_whole" ["thing"] [] sp_is_whole) (z_isinstance : mg "isinstance" = none) (z_tuple : mg "tuple" = none) (z_len : mg "len" = none) : Cal P w K mg base 2 "is_pair" ["thing"] [] sp_is_pair :=
  cal_of d sc_is_pair len_is_pair (fun f cdv A outer s H E hr =>
  (pvB_one (pv_ret (pv_and (pv_isi isK_tuple (by rfl) z_isinstance (by decide +kernel) (pv_var 0) (by rfl) z_tuple (by decide +kernel)) (pv_and (pv_cmp (op_eqD hr.units) sem_eq (pv_blt call_len_seq sem_len (by rfl) z_len (by decide +kernel) (pvA_consV (pv_var 0) pvA_nil)) pv_int (nomark _)) (pv_and (pv_callC c_is_whole (by decide) hr (by rfl) (L2N.takes_of rfl rfl rfl rfl) (pvA_consF (pv_ix ix_seq sem_ix (pv_var 0) pv_int) pvA_nil)) (pv_one (pv_callC c_is_whole (by decide) hr (by rfl) (L2N.takes_of rfl rfl rfl rfl) (pvA_consF (pv_ix ix_seq sem_ix (pv_var 0) pv_int) pvA_nil))))))))) vc_is_pair
abbrev s_divisor : Stmt := topS 19
theorem sc_divisor : FnScope N_divisor ["one", "other"] (defScope s_divisor) := ⟨rfl, rfl, rfl, by decide +kernel, rfl, by decide +kernel, by decide +kernel⟩
theorem ok_divisor (d : Dfn K mg "divisor" s_divisor ["one", "other"]) (z_abs : mg "abs" = none) : Cal P w K mg base 1 "divisor" ["one", "other"] [] sp_divisor :=
  cal_of d sc_divisor len_divisor (fun f cdv A outer s H E hr =>
  (pvB_cons (pv_set 0 sc_divisor.nd rfl (.inl rfl) (pv_blt call_abs sem_abs (by rfl) z_abs (by decide +kernel) (pvA_consV (pv_var 0) pvA_nil)))
  (pvB_cons (pv_set 1 sc_divisor.nd rfl (.inl rfl) (pv_blt call_abs sem_abs (by rfl) z_abs (by decide +kernel) (pvA_consV (pv_var 1) pvA_nil)))
  (pvB_cons (pv_while (passes_of rfl) (pvT_cmp op_gt sem_gt (pv_var 1) pv_int (nomark _)) (pvB_one (pv_par 0 1 rfl sc_divisor.nd rfl rfl (by decide) rfl rfl (pvA_consF (pv_var 1) (pvA_consF (pv_bin op_modN sem_mod (pv_var 0) (pv_var 1)) pvA_nil)) (by rfl))))
  (pvB_one (pv_ret (pv_var 0))))))) vc_divisor
abbrev s_common : Stmt := topS 23
theorem sc_common : FnScope N_common ["pair"] (defScope s_common) := ⟨rfl, rfl, rfl, by decide +kernel, rfl, by decide +kernel, by decide +kernel⟩
theorem ok_common (d : Dfn K mg "common" s_common ["pair"]) (c_divisor : Cal P w K mg base 1 "divisor" ["one", "other"] [] sp_divisor) : Cal P w K mg base 2 "common" ["pair"] [] sp_common :=
  cal_of d sc_common len_common (fun f cdv A outer s H E hr =>
  (pvB_one (pv_ret (pv_callC c_divisor (by decide) hr (by rfl) (L2N.takes_of rfl rfl rfl rfl) (pvA_consF (pv_ix ix_seq sem_ix (pv_var 0) pv_int) (pvA_consF (pv_ix ix_seq sem_ix (pv_var 0) pv_int) pvA_nil)))))) vc_common
abbrev s_is_ray : Stmt := topS 24
theorem sc_is_ray : FnScope N_is_ray ["thing"] (defScope s_is_ray) := ⟨rfl, rfl, rfl, by decide +kernel, rfl, by decide +kernel, by decide +kernel⟩
theorem ok_is_ray (d : Dfn K mg "is_ray" s_is_ray ["thing"]) (c_is_pair : Cal P w K mg base 2 "is_pair" ["thing"] [] sp_is_pair) (c_common : Cal P w K mg base 2 "common" ["pair"] [] sp_common) : Cal P w K mg base 3 "is_ray" ["thing"] [] sp_is_ray :=
  cal_of d sc_is_ray len_is_ray (fun f cdv A outer s H E hr =>
  (pvB_one (pv_ret (pv_and (pv_callC c_is_pair (by decide) hr (by rfl) (L2N.takes_of rfl rfl rfl rfl) (pvA_consF (pv_var 0) pvA_nil)) (pv_one (pv_cmp (op_eqD hr.units) sem_eq (pv_callC c_common (by decide) hr (by rfl) (L2N.takes_of rfl rfl rfl rfl) (pvA_consF (pv_var 0) pvA_nil)) pv_int (nomark _))))))) vc_is_ray
abbrev s_crossed : Stmt := topS 22
theorem sc_crossed : FnScope N_crossed ["one", "other"] (defScope s_crossed) := ⟨rfl, rfl, rfl, by decide +kernel, rfl, by decide +kernel, by decide +kernel⟩
theorem ok_crossed (d : Dfn K mg "crossed" s_crossed ["one", "other"]) : Cal P w K mg base 1 "crossed" ["one", "other"] [] sp_crossed :=
  cal_of d sc_crossed len_crossed (fun f cdv A outer s H E hr =>
  (pvB_one (pv_ret (pv_bin op_sub sem_sub (pv_bin op_mulB sem_mul (pv_ix ix_seq sem_ix (pv_var 0) pv_int) (pv_ix ix_seq sem_ix (pv_var 1) pv_int)) (pv_bin op_mulB sem_mul (pv_ix ix_seq sem_ix (pv_var 0) pv_int) (pv_ix ix_seq sem_ix (pv_var 1) pv_int)))))) vc_crossed
abbrev s_has_east : Stmt := topS 29
theorem sc_has_east : FnScope N_has_east ["one", "other"] (defScope s_has_east) := ⟨rfl, rfl, rfl, by decide +kernel, rfl, by decide +kernel, by decide +kernel⟩
theorem ok_has_east (d : Dfn K mg "has_east" s_has_east ["one", "other"]) (c_crossed : Cal P w K mg base 1 "crossed" ["one", "other"] [] sp_crossed) (cst_EAST : Cst K mg "EAST" cn_EAST) : Cal P w K mg base 2 "has_east" ["one", "other"] [] sp_has_east :=
  cal_of d sc_has_east len_has_east (fun f cdv A outer s H E hr =>
  (pvB_cons (pv_if (pvT_cmp (op_eqD hr.units) sem_eq (pv_callC c_crossed (by decide) hr (by rfl) (L2N.takes_of rfl rfl rfl rfl) (pvA_consF (pv_var 0) (pvA_consF (cst_EAST.pv (by rfl)) pvA_nil))) pv_int (nomark _)) (pvB_one (pv_ret (pv_cmp op_gt sem_gt (pv_ix ix_seq sem_ix (pv_var 0) pv_int) pv_int (nomark _)))) pvB_nil)
  (pvB_one (pv_ret (pv_and (pv_cmp op_gt sem_gt (pv_callC c_crossed (by decide) hr (by rfl) (L2N.takes_of rfl rfl rfl rfl) (pvA_consF (pv_var 0) (pvA_consF (cst_EAST.pv (by rfl)) pvA_nil))) pv_int (nomark _)) (pv_one (pv_cmp op_gt sem_gt (pv_callC c_crossed (by decide) hr (by rfl) (L2N.takes_of rfl rfl rfl rfl) (pvA_consF (cst_EAST.pv (by rfl)) (pvA_consF (pv_var 1) pvA_nil))) pv_int (nomark _)))))))) vc_has_east
abbrev s_look_round : Stmt := topS 30
theorem sc_look_round : FnScope N_look_round ["thing"] (defScope s_look_round) := ⟨rfl, rfl, rfl, by decide +kernel, rfl, by decide +kernel, by decide +kernel⟩
theorem ok_look_round (d : Dfn K mg "look_round" s_look_round ["thing"]) (c_is_ray : Cal P w K mg base 3 "is_ray" ["thing"] [] sp_is_ray) (c_wedges : Cal P w K mg base 1 "wedges" ["rays"] [] sp_wedges) (c_crossed : Cal P w K mg base 1 "crossed" ["one", "other"] [] sp_crossed) (c_has_east : Cal P w K mg base 2 "has_east" ["one", "other"] [] sp_has_east) (z_enumerate : mg "enumerate" = none) (z_len : mg "len" = none) (z_isinstance : mg "isinstance" = none) (z_list : mg "list" = none) (cst_FEWEST : Cst K mg "FEWEST" cn_FEWEST) (xi_NoRound : XInit P w K mg base "NoRound" "where" "at" 1) : Cal P w K mg base 4 "look_round" ["thing"] [] sp_look_round :=
  cal_of d sc_look_round len_look_round (fun f cdv A outer s H E hr =>
  (pvB_cons (pv_if (PW.pt (pvW_or (pvT_not (pvT_val (pv_isi isK_list (by rfl) z_isinstance (by decide +kernel) (pv_var 0) (by rfl) z_list (by decide +kernel)))) (pvW_or1 (pvT_cmp op_lt sem_lt (pv_blt call_len_seq sem_len (by rfl) z_len (by decide +kernel) (pvA_consV (pv_var 0) pvA_nil)) (cst_FEWEST.pv (by rfl)) (nomark _))))) (pvB_one (pv_raiseC xi_NoRound (hr.mono (by decide)) rfl (L2N.takes_of rfl rfl rfl rfl) (by rfl) (pvA_consF pv_str (pvA_consF pv_str (pvA_consF pv_int pvA_nil))))) pvB_nil)
  (pvB_cons (pv_for (passes_of rfl) rfl (pvI_enum (by rfl) z_enumerate (pvA_consV (pv_var 0) pvA_nil)) (pvG_tup rfl (pvGs_cons (pvG_name 1 sc_look_round.nd rfl (.inl rfl)) (pvGs_cons (pvG_name 2 sc_look_round.nd rfl (.inl rfl)) pvGs_nil))) (pvB_one (pv_if (pvT_not (pvT_val (pv_callC c_is_ray (by decide) hr (by rfl) (L2N.takes_of rfl rfl rfl rfl) (pvA_consF (pv_var 2) pvA_nil)))) (pvB_one (pv_raiseC xi_NoRound (hr.mono (by decide)) rfl (L2N.takes_of rfl rfl rfl rfl) (by rfl) (pvA_consF pv_str (pvA_consF pv_str (pvA_consF (pv_var 1) pvA_nil))))) pvB_nil)))
  (pvB_cons (pv_for (passes_of rfl) rfl (pvI_enum (by rfl) z_enumerate (pvA_consV (pv_callC c_wedges (by decide) hr (by rfl) (L2N.takes_of rfl rfl rfl rfl) (pvA_consF (pv_var 0) pvA_nil)) pvA_nil)) (pvG_tup rfl (pvGs_cons (pvG_name 1 sc_look_round.nd rfl (.inl rfl)) (pvGs_cons (pvG_name 3 sc_look_round.nd rfl (.inl rfl)) pvGs_nil))) (pvB_one (pv_if (pvT_cmp op_le sem_le (pv_callC c_crossed (by decide) hr (by rfl) (L2N.takes_of rfl rfl rfl rfl) (pvA_consF (pv_ix ix_seq sem_ix (pv_var 3) pv_int) (pvA_consF (pv_ix ix_seq sem_ix (pv_var 3) pv_int) pvA_nil))) pv_int (nomark _)) (pvB_one (pv_raiseC xi_NoRound (hr.mono (by decide)) rfl (L2N.takes_of rfl rfl rfl rfl) (by rfl) (pvA_consF pv_str (pvA_consF pv_str (pvA_consF (pv_var 1) pvA_nil))))) pvB_nil)))
  (pvB_one (pv_if (pvT_cmp (op_neD hr.units) sem_ne (pv_blt call_len_seq sem_len (by rfl) z_len (by decide +kernel) (pvA_consV (pv_lc [0, 1, 2] rfl sc_look_round.nd (pvI_list (pv_callC c_wedges (by decide) hr (by rfl) (L2N.takes_of rfl rfl rfl rfl) (pvA_consF (pv_var 0) pvA_nil))) (blkOk_by (own := [("pair", 3)]) (N := N_look_round) (show blkC N_look_round (defScope s_look_round) _ _ = true by decide +kernel)) (fun _ _ _ _ _ => (pvG_name 3 sc_look_round.nd rfl (.inl rfl))) (fun _ _ _ _ _ => (pvTs_one (pvT_val (pv_callC c_has_east (by decide) hr (by rfl) takes0N (pvA_consF (pv_ix ix_seq sem_ix (pv_var 3) pv_int) (pvA_consF (pv_ix ix_seq sem_ix (pv_var 3) pv_int) pvA_nil)))))) (fun _ _ _ _ _ => (pv_var 3))) pvA_nil)) pv_int (nomark _)) (pvB_one (pv_raiseC xi_NoRound (hr.mono (by decide)) rfl (L2N.takes_of rfl rfl rfl rfl) (by rfl) (pvA_consF pv_str (pvA_consF pv_str (pvA_consF pv_int pvA_nil))))) pvB_nil)))))) vc_look_round
abbrev s__law_classes : Stmt := topS 46
theorem sc__law_classes : FnScope N__law_classes ["_law_e"] (defScope s__law_classes) := ⟨rfl, rfl, rfl, by decide +kernel, rfl, by decide +kernel, by decide +kernel⟩
theorem okh__law_classes (d : Dfn K mg "_law_classes" s__law_classes ["_law_e"]) (z_isinstance : mg "isinstance" = none) (z_range : mg "range" = none) (if_NoRatio : IsF K mg ["NoRound"] "NoRatio") (if_NoTurning : IsF K mg ["NoRound"] "NoTurning") (if_NoRound : IsF K mg ["NoRound"] "NoRound") (if_NotSmooth : IsF K mg ["NoRound"] "NotSmooth") (if_NoWedge : IsF K mg ["NoRound"] "NoWedge") (if_NoRow : IsF K mg ["NoRound"] "NoRow") (if_NoPlace : IsF K mg ["NoRound"] "NoPlace") (if_NoMinus : IsF K mg ["NoRound"] "NoMinus") (if_NoFour : IsF K mg ["NoRound"] "NoFour") (if_NoHeight : IsF K mg ["NoRound"] "NoHeight") (if_NoBend : IsF K mg ["NoRound"] "NoBend") (if_NoBody : IsF K mg ["NoRound"] "NoBody") (if_NoOne : IsF K mg ["NoRound"] "NoOne") (if_NoText : IsF K mg ["NoRound"] "NoText") (if_Unknown : IsF K mg ["NoRound"] "Unknown") (ib_ValueError : IsB K mg ["NoRound"] "ValueError") : CalP P w K mg base 1 "_law_classes" ["_law_e"] [0] sp__law_classes :=
  calP_of (t := t__law_classes) d sc__law_classes len__law_classes (fun f a dd x oe cdv A outer s H E hr hx =>
  (pvB_cons (pv_setF 1 sc__law_classes.nd rfl (.inr rfl) (pv_lst (pvA_consF (pv_isE 0 hx if_NoRatio (by rfl) z_isinstance (by decide +kernel) (by rfl)) (pvA_consF (pv_isE 0 hx if_NoTurning (by rfl) z_isinstance (by decide +kernel) (by rfl)) (pvA_consF (pv_isE 0 hx if_NoRound (by rfl) z_isinstance (by decide +kernel) (by rfl)) (pvA_consF (pv_isE 0 hx if_NotSmooth (by rfl) z_isinstance (by decide +kernel) (by rfl)) pvA_nil))))))
  (pvB_cons (pv_setF 1 sc__law_classes.nd rfl (.inr rfl) (pv_bin op_addA sem_add (pv_var 1) (pv_lst (pvA_consF (pv_isE 0 hx if_NoWedge (by rfl) z_isinstance (by decide +kernel) (by rfl)) (pvA_consF (pv_isE 0 hx if_NoRow (by rfl) z_isinstance (by decide +kernel) (by rfl)) (pvA_consF (pv_isE 0 hx if_NoPlace (by rfl) z_isinstance (by decide +kernel) (by rfl)) (pvA_consF (pv_isE 0 hx if_NoMinus (by rfl) z_isinstance (by decide +kernel) (by rfl)) pvA_nil)))))))
  (pvB_cons (pv_setF 1 sc__law_classes.nd rfl (.inr rfl) (pv_bin op_addA sem_add (pv_var 1) (pv_lst (pvA_consF (pv_isE 0 hx if_NoFour (by rfl) z_isinstance (by decide +kernel) (by rfl)) (pvA_consF (pv_isE 0 hx if_NoHeight (by rfl) z_isinstance (by decide +kernel) (by rfl)) (pvA_consF (pv_isE 0 hx if_NoBend (by rfl) z_isinstance (by decide +kernel) (by rfl)) (pvA_consF (pv_isE 0 hx if_NoBody (by rfl) z_isinstance (by decide +kernel) (by rfl)) pvA_nil)))))))
  (pvB_cons (pv_setF 1 sc__law_classes.nd rfl (.inr rfl) (pv_bin op_addA sem_add (pv_var 1) (pv_lst (pvA_consF (pv_isE 0 hx if_NoOne (by rfl) z_isinstance (by decide +kernel) (by rfl)) (pvA_consF (pv_isE 0 hx if_NoText (by rfl) z_isinstance (by decide +kernel) (by rfl)) (pvA_consF (pv_isE 0 hx if_Unknown (by rfl) z_isinstance (by decide +kernel) (by rfl)) pvA_nil))))))
  (pvB_one (pv_ret (pv_lcH [0, 1] hx sc__law_classes.nd (pvI_range1H (by rfl) z_range (pvA_consF pv_int pvA_nil)) (blkOk_by (own := [("_law_k", 2)]) (N := N__law_classes) (show blkC N__law_classes (defScope s__law_classes) _ _ = true by decide +kernel)) (fun _ _ _ _ _ => (pvG_name 2 sc__law_classes.nd rfl (.inl rfl))) (fun _ _ _ _ _ => (pvTs_one (PW.pt (pvW_and (pvT_val (pv_ix ix_seq sem_ix (pv_var 1) (pv_var 2))) (pvW_and1 (pvT_val (pv_isEB 0 hx ib_ValueError (by rfl) z_isinstance (by decide +kernel) (by rfl) (by decide +kernel)))))))) (fun _ _ _ _ _ => (pv_var 2)))))))))) vc__law_classes
abbrev s__law_looked : Stmt := topS 50
theorem sc__law_looked : FnScope N__law_looked ["_law_thing"] (defScope s__law_looked) := ⟨rfl, rfl, rfl, by decide +kernel, rfl, by decide +kernel, by decide +kernel⟩
theorem ok__law_looked (d : Dfn K mg "_law_looked" s__law_looked ["_law_thing"]) (c_look_round : Cal P w K mg base 4 "look_round" ["thing"] [] sp_look_round) (ch__law_classes : CalP P w K mg base 1 "_law_classes" ["_law_e"] [0] sp__law_classes) (ch__law_whole : CalP P w K mg base 1 "_law_whole" ["_law_thing"] [] (fun _ _ _ => sp__law_whole)) (z_isinstance : mg "isinstance" = none) (z_str : mg "str" = none) (fl_NoRound_where : XFld K mg "NoRound" "where") (fl_NoRound_at : XFld K mg "NoRound" "at") (cat_RayError : Catches K mg ["NoRound"] "RayError") : Cal P w K mg base 5 "_law_looked" ["_law_thing"] [] sp__law_looked :=
  cal_of d sc__law_looked len__law_looked (fun f cdv A outer s H E hr =>
  (pvB_cons (pv_try_asC 2 sc__law_looked.nd rfl cat_RayError (by rfl) (L2N.takes_of rfl rfl rfl rfl) (fun W pn xe tk' po => (pvB_one (pv_setF 1 sc__law_looked.nd rfl (.inl rfl) (pv_callC c_look_round (by decide) hr (by rfl) tk' (pvA_consF (pv_var 0) pvA_nil))))) (fun a dd x oe pn hL hx => (pvB_cons (pv_if (PW.pt (pvW_or (pvT_cmp (op_neD hr.units) sem_ne (pv_callPC ch__law_classes (by decide) (roomM hr) hx (by rfl) takes0N (pvA_consV (pv_var 2) pvA_nil)) (pv_lst (pvA_consF pv_int pvA_nil)) (nomark _)) (pvW_or (pvT_not (pvT_val (pv_isi isK_str (by rfl) z_isinstance (by decide +kernel) (pv_fld 2 hx fl_NoRound_where) (by rfl) z_str (by decide +kernel)))) (pvW_or1 (pvT_not (pvT_val (pv_callPC ch__law_whole (by decide) (roomM hr) hx (by rfl) takes0N (pvA_consF (pv_fld 2 hx fl_NoRound_at) pvA_nil)))))))) (pvB_one (pv_ret pv_str)) pvB_nil)
  (pvB_one (pv_ret (pv_tup (pvA_consF (pv_fld 2 hx fl_NoRound_where) (pvA_consF (pv_fld 2 hx fl_NoRound_at) pvA_nil))))))))
  (pvB_cons (pv_if (pvT_cmp op_notN sem_notN (pv_var 1) pv_non (nomark _)) (pvB_one (pv_ret pv_str)) pvB_nil)
  (pvB_one (pv_ret pv_non))))) vc__law_looked
abbrev s__law_again : Stmt := topS 53
theorem sc__law_again : FnScope N__law_again ["_law_bag_here", "_law_thing"] (defScope s__law_again) := ⟨rfl, rfl, rfl, by decide +kernel, rfl, by decide +kernel, by decide +kernel⟩
theorem ok__law_again (d : Dfn K mg "_law_again" s__law_again ["_law_bag_here", "_law_thing"]) (c__law_digit : Cal P w K mg base 1 "_law_digit" ["_law_bag_here", "_law_many"] [0] sp__law_digit) (z_len : mg "len" = none) (z_isinstance : mg "isinstance" = none) (z_list : mg "list" = none) : Cal P w K mg base 2 "_law_again" ["_law_bag_here", "_law_thing"] [0] sp__law_again :=
  cal_of d sc__law_again len__law_again (fun f cdv A outer s H E hr =>
  (pvB_cons (pv_if (PW.pt (pvW_or (pvT_not (pvT_val (pv_isi isK_list (by rfl) z_isinstance (by decide +kernel) (pv_var 1) (by rfl) z_list (by decide +kernel)))) (pvW_or1 (pvT_cmp op_lt sem_lt (pv_blt call_len_seq sem_len (by rfl) z_len (by decide +kernel) (pvA_consV (pv_var 1) pvA_nil)) pv_int (nomark _))))) (pvB_one (pv_ret (pv_var 1))) pvB_nil)
  (pvB_cons (pv_setF 2 sc__law_again.nd rfl (.inl rfl) (pv_callC c__law_digit (by decide) hr (by rfl) (L2N.takes_of rfl rfl rfl rfl) (pvA_consV (pv_var 0) (pvA_consF (pv_blt call_len_seq sem_len (by rfl) z_len (by decide +kernel) (pvA_consV (pv_var 1) pvA_nil)) pvA_nil))))
  (pvB_one (pv_ret (pv_bin op_addA sem_add (pv_bin op_addA sem_add (pv_slice (pv_var 1) pvP_none (pvP_some (pv_var 2))) (pv_lst (pvA_consF (pv_ix ix_seq sem_ix (pv_lst (pvA_consF pv_non (pvA_consF (pv_tup (pvA_consF pv_int (pvA_consF pv_int pvA_nil))) (pvA_consF (pv_tup (pvA_consF pv_int (pvA_consF pv_int pvA_nil))) (pvA_consF (pv_tup (pvA_consF pv_int (pvA_consF pv_int pvA_nil))) pvA_nil))))) (pv_callC c__law_digit (by decide) hr (by rfl) (L2N.takes_of rfl rfl rfl rfl) (pvA_consV (pv_var 0) (pvA_consF pv_int pvA_nil)))) pvA_nil))) (pv_slice (pv_var 1) (pvP_some (pv_bin op_addA sem_add (pv_var 2) pv_int)) pvP_none))))))) vc__law_again
abbrev s_law : Stmt := topS 54
theorem sc_law : FnScope N_law ["_law_script"] (defScope s_law) := ⟨rfl, rfl, rfl, by decide +kernel, rfl, by decide +kernel, by decide +kernel⟩
theorem ok_law (d : Dfn K mg "law" s_law ["_law_script"]) (c__law_bag : Cal P w K mg base 1 "_law_bag" ["_law_script", "_law_k"] [] sp__law_bag) (c__law_smooth : Cal P w K mg base 4 "_law_smooth" ["_law_bag_here"] [0] sp__law_smooth) (c__law_any : Cal P w K mg base 5 "_law_any" ["_law_bag_here"] [0] sp__law_any) (c__law_digit : Cal P w K mg base 1 "_law_digit" ["_law_bag_here", "_law_many"] [0] sp__law_digit) (c__law_fault : Cal P w K mg base 3 "_law_fault" ["_law_thing"] [] sp__law_fault) (c__law_looked : Cal P w K mg base 5 "_law_looked" ["_law_thing"] [] sp__law_looked) (c__law_bent : Cal P w K mg base 3 "_law_bent" ["_law_bag_here", "_law_rays"] [0] sp__law_bent) (c__law_again : Cal P w K mg base 2 "_law_again" ["_law_bag_here", "_law_thing"] [0] sp__law_again) (z_range : mg "range" = none) (z_max : mg "max" = none) (z_min : mg "min" = none) (z_repr : mg "repr" = none) (z_len : mg "len" = none) (z_list : mg "list" = none) : CalG P w K mg base 6 "law" ["_law_script"] [] spLaw :=
  calG_of d sc_law len_law (fun f cdv A outer s H E hgd hr =>
  (pvB_cons (pv_for (passes_of rfl) rfl (pvI_range1 (by rfl) z_range (pvA_consF (pv_blt (call_max2 rfl) sem_max2 (by rfl) z_max (by decide +kernel) (pvA_consV pv_int (pvA_consV (pv_blt (call_min2 rfl) sem_min2 (by rfl) z_min (by decide +kernel) (pvA_consV pv_int (pvA_consV (pv_blt call_len_seq sem_len (by rfl) z_len (by decide +kernel) (pvA_consV (pv_var 0) pvA_nil)) pvA_nil))) pvA_nil))) pvA_nil)) (pvG_name 1 sc_law.nd rfl (.inl rfl)) (pvB_cons (pv_set 2 sc_law.nd rfl (.inl rfl) (pv_callC c__law_bag (by decide) hr (by rfl) (L2N.takes_of rfl rfl rfl rfl) (pvA_consF (pv_var 0) (pvA_consF (pv_var 1) pvA_nil))))
  (pvB_cons (pv_set 3 sc_law.nd rfl (.inl rfl) (pv_ix ix_seq sem_ix (pv_lst (pvA_consF (pv_callC c__law_smooth (by decide) hr (by rfl) (L2N.takes_of rfl rfl rfl rfl) (pvA_consV (pv_var 2) pvA_nil)) (pvA_consF (pv_callC c__law_any (by decide) hr (by rfl) (L2N.takes_of rfl rfl rfl rfl) (pvA_consV (pv_var 2) pvA_nil)) pvA_nil))) (pv_callC c__law_digit (by decide) hr (by rfl) (L2N.takes_of rfl rfl rfl rfl) (pvA_consV (pv_var 2) (pvA_consF pv_int pvA_nil)))))
  (pvB_cons (pv_if (PW.pt (pvW_or (pvT_cmp op_notN sem_notN (pv_callC c__law_fault (by decide) hr (by rfl) (L2N.takes_of rfl rfl rfl rfl) (pvA_consF (pv_var 3) pvA_nil)) pv_non (nomark _)) (pvW_or1 (pvT_cmp op_notN sem_notN (pv_callC c__law_looked (by decide) hr (by rfl) (L2N.takes_of rfl rfl rfl rfl) (pvA_consF (pv_ty call_list_of sem_list (by rfl) z_list (by decide +kernel) (pvA_consV (pv_var 3) pvA_nil)) pvA_nil)) pv_non (nomark _))))) (pvB_one (pv_ret pv_bl)) pvB_nil)
  (pvB_one (pv_for (passes_of rfl) rfl (pvI_range1 (by rfl) z_range (pvA_consF pv_int pvA_nil)) (pvG_name 4 sc_law.nd rfl (.inl rfl)) (pvB_cons (pv_setF 5 sc_law.nd rfl (.inl rfl) (pv_callC c__law_bent (by decide) hr (by rfl) (L2N.takes_of rfl rfl rfl rfl) (pvA_consV (pv_var 2) (pvA_consF (pv_var 3) pvA_nil))))
  (pvB_cons (pv_if (pvT_cmp (op_eqD hr.units) sem_eq (pv_callC c__law_digit (by decide) hr (by rfl) (L2N.takes_of rfl rfl rfl rfl) (pvA_consV (pv_var 2) (pvA_consF pv_int pvA_nil))) pv_int (nomark _)) (pvB_one (pv_setF 5 sc_law.nd rfl (.inl rfl) (pv_callC c__law_again (by decide) hr (by rfl) (L2N.takes_of rfl rfl rfl rfl) (pvA_consV (pv_var 2) (pvA_consF (pv_var 5) pvA_nil))))) pvB_nil)
  (pvB_cons (pv_setF 6 sc_law.nd rfl (.inl rfl) (pv_blt (call_reprD hgd (room100 hr)) sem_rep (by rfl) z_repr (by decide +kernel) (pvA_consV (pv_var 5) pvA_nil)))
  (pvB_one (pv_if (PW.pt (pvW_or (pvT_cmp (op_neD hr.units) sem_ne (pv_callC c__law_looked (by decide) hr (by rfl) (L2N.takes_of rfl rfl rfl rfl) (pvA_consF (pv_var 5) pvA_nil)) (pv_callC c__law_fault (by decide) hr (by rfl) (L2N.takes_of rfl rfl rfl rfl) (pvA_consF (pv_var 5) pvA_nil)) (nomark _)) (pvW_or1 (pvT_cmp op_ne sem_neS (pv_blt (call_reprD hgd (room100 hr)) sem_rep (by rfl) z_repr (by decide +kernel) (pvA_consV (pv_var 5) pvA_nil)) (pv_var 6) (nomark _))))) (pvB_one (pv_ret pv_bl)) pvB_nil)))))))))))
  (pvB_one (pv_ret pv_bl)))) vc_law
abbrev i_NoRound : Stmt := (match topS 4 with | .ClassDef _ _ _ body _ _ _ _ _ _ _ => body.getD 0 (.Pass ⟨0, 0, 0, 0⟩) | s => s)
theorem isc_NoRound : FnScope ["self", "words", "where", "at"] ["self", "words", "where", "at"] (defScope i_NoRound) := ⟨rfl, rfl, rfl, by decide +kernel, rfl, by decide +kernel, by decide +kernel⟩
set_option maxHeartbeats 0 in
theorem all_mk {l : PySem.W.OpenLaw} {w : World} {K : PySem.W.Frag} {h : Heap} {mg : Str → Option Value} {fa : Addr} (X : K.In h) (G : h.Ns mainGlobals mg) (hfa : mg "law" = some (.ref fa))
    {od0 an0 : Option Addr} {sl0 : Array (Option Value)} {oc0 kV0 dc0 pm0 cd0 ct0 : Value} {f0 : Addr}
    {od1 an1 : Option Addr} {sl1 : Array (Option Value)} {oc1 kV1 dc1 pm1 cd1 ct1 : Value} {f1 : Addr}
    {od2 an2 : Option Addr} {sl2 : Array (Option Value)} {oc2 kV2 dc2 pm2 cd2 ct2 : Value} {f2 : Addr}
    {od3 an3 : Option Addr} {sl3 : Array (Option Value)} {oc3 kV3 dc3 pm3 cd3 ct3 : Value} {f3 : Addr}
    {od4 an4 : Option Addr} {sl4 : Array (Option Value)} {oc4 kV4 dc4 pm4 cd4 ct4 : Value} {f4 : Addr}
    {od5 an5 : Option Addr} {sl5 : Array (Option Value)} {oc5 kV5 dc5 pm5 cd5 ct5 : Value} {f5 : Addr}
    {od6 an6 : Option Addr} {sl6 : Array (Option Value)} {oc6 kV6 dc6 pm6 cd6 ct6 : Value} {f6 : Addr}
    {od7 an7 : Option Addr} {sl7 : Array (Option Value)} {oc7 kV7 dc7 pm7 cd7 ct7 : Value} {f7 : Addr}
    {od8 an8 : Option Addr} {sl8 : Array (Option Value)} {oc8 kV8 dc8 pm8 cd8 ct8 : Value} {f8 : Addr}
    {od9 an9 : Option Addr} {sl9 : Array (Option Value)} {oc9 kV9 dc9 pm9 cd9 ct9 : Value} {f9 : Addr}
    {od10 an10 : Option Addr} {sl10 : Array (Option Value)} {oc10 kV10 dc10 pm10 cd10 ct10 : Value} {f10 : Addr}
    {od11 an11 : Option Addr} {sl11 : Array (Option Value)} {oc11 kV11 dc11 pm11 cd11 ct11 : Value} {f11 : Addr}
    {od12 an12 : Option Addr} {sl12 : Array (Option Value)} {oc12 kV12 dc12 pm12 cd12 ct12 : Value} {f12 : Addr}
    {od13 an13 : Option Addr} {sl13 : Array (Option Value)} {oc13 kV13 dc13 pm13 cd13 ct13 : Value} {f13 : Addr}
    {od14 an14 : Option Addr} {sl14 : Array (Option Value)} {oc14 kV14 dc14 pm14 cd14 ct14 : Value} {f14 : Addr}
    {od15 an15 : Option Addr} {sl15 : Array (Option Value)} {oc15 kV15 dc15 pm15 cd15 ct15 : Value} {f15 : Addr}
    {od16 an16 : Option Addr} {sl16 : Array (Option Value)} {oc16 kV16 dc16 pm16 cd16 ct16 : Value} {f16 : Addr}
    {od17 an17 : Option Addr} {sl17 : Array (Option Value)} {oc17 kV17 dc17 pm17 cd17 ct17 : Value} {f17 : Addr}
    {od18 an18 : Option Addr} {sl18 : Array (Option Value)} {oc18 kV18 dc18 pm18 cd18 ct18 : Value} {f18 : Addr}
    {od19 an19 : Option Addr} {sl19 : Array (Option Value)} {oc19 kV19 dc19 pm19 cd19 ct19 : Value} {f19 : Addr}
    {od20 an20 : Option Addr} {sl20 : Array (Option Value)} {oc20 kV20 dc20 pm20 cd20 ct20 : Value} {f20 : Addr}
    {od21 an21 : Option Addr} {sl21 : Array (Option Value)} {oc21 kV21 dc21 pm21 cd21 ct21 : Value} {f21 : Addr}
    {od22 an22 : Option Addr} {sl22 : Array (Option Value)} {oc22 kV22 dc22 pm22 cd22 ct22 : Value} {f22 : Addr}
    {od23 an23 : Option Addr} {sl23 : Array (Option Value)} {oc23 kV23 dc23 pm23 cd23 ct23 : Value} {f23 : Addr}
    {od24 an24 : Option Addr} {sl24 : Array (Option Value)} {oc24 kV24 dc24 pm24 cd24 ct24 : Value} {f24 : Addr}
    {od25 an25 : Option Addr} {sl25 : Array (Option Value)} {oc25 kV25 dc25 pm25 cd25 ct25 : Value} {f25 : Addr}
    {od26 an26 : Option Addr} {sl26 : Array (Option Value)} {oc26 kV26 dc26 pm26 cd26 ct26 : Value} {f26 : Addr}
    {od27 an27 : Option Addr} {sl27 : Array (Option Value)} {oc27 kV27 dc27 pm27 cd27 ct27 : Value} {f27 : Addr}
    {od28 an28 : Option Addr} {sl28 : Array (Option Value)} {oc28 kV28 dc28 pm28 cd28 ct28 : Value} {f28 : Addr}
    {od29 an29 : Option Addr} {sl29 : Array (Option Value)} {oc29 kV29 dc29 pm29 cd29 ct29 : Value} {f29 : Addr}
    {od30 an30 : Option Addr} {sl30 : Array (Option Value)} {oc30 kV30 dc30 pm30 cd30 ct30 : Value} {f30 : Addr}
    {od31 an31 : Option Addr} {sl31 : Array (Option Value)} {oc31 kV31 dc31 pm31 cd31 ct31 : Value} {f31 : Addr}
    {xa_NoRound : Addr}
    {xa_NoRatio : Addr}
    {xa_NoTurning : Addr}
    {xa_NotSmooth : Addr}
    {xa_NoWedge : Addr}
    {xa_NoRow : Addr}
    {xa_NoPlace : Addr}
    {xa_NoMinus : Addr}
    {xa_NoFour : Addr}
    {xa_NoHeight : Addr}
    {xa_NoBend : Addr}
    {xa_NoBody : Addr}
    {xa_NoOne : Addr}
    {xa_NoText : Addr}
    {xa_Unknown : Addr}
    {xa_RayError : Addr}
    {onm_NoRound oqn_NoRound : Str} {oN_NoRound fi_NoRound : Addr} {obs_NoRound obm_NoRound osub_NoRound : List Value} {osn_NoRound : List Str} {oab_NoRound : Bool} {ocol_NoRound : Option Bool} {odd_NoRound : Option Addr} {ok0_NoRound ok1_NoRound ok2_NoRound ok3_NoRound ok5_NoRound : Option Value}
    {iod_NoRound ian_NoRound : Option Addr} {isl_NoRound : Array (Option Value)} {ioc_NoRound ikV_NoRound idc_NoRound ipm_NoRound icd_NoRound ict_NoRound : Value}
    {co_EAST : Obj} {cn0_EAST : Nat} {ca_EAST : Addr} {ct_EAST : List Value}
    {cv_FEWEST : Value}
    (a0 : PySem.W.nsIn K mainGlobals "_law_bag" = some (some (.ref f0)))
    (l0 : K.lookup f0 = some ⟨oc0, od0, .func (PySem.W.fnOf "_law_bag" "_law_bag" (defArgs s__law_bag) (defBody s__law_bag) (defScope s__law_bag) .none kV0 dc0 pm0 an0 cd0 ct0), sl0⟩) (e0 : PySem.W.codeIn K cd0 "_law_bag" = true) (k0 : PySem.W.keepIn K (.ref f0) = true)
    (a1 : PySem.W.nsIn K mainGlobals "_law_digit" = some (some (.ref f1)))
    (l1 : K.lookup f1 = some ⟨oc1, od1, .func (PySem.W.fnOf "_law_digit" "_law_digit" (defArgs s__law_digit) (defBody s__law_digit) (defScope s__law_digit) .none kV1 dc1 pm1 an1 cd1 ct1), sl1⟩) (e1 : PySem.W.codeIn K cd1 "_law_digit" = true) (k1 : PySem.W.keepIn K (.ref f1) = true)
    (a2 : PySem.W.nsIn K mainGlobals "_law_odd" = some (some (.ref f2)))
    (l2 : K.lookup f2 = some ⟨oc2, od2, .func (PySem.W.fnOf "_law_odd" "_law_odd" (defArgs s__law_odd) (defBody s__law_odd) (defScope s__law_odd) .none kV2 dc2 pm2 an2 cd2 ct2), sl2⟩) (e2 : PySem.W.codeIn K cd2 "_law_odd" = true) (k2 : PySem.W.keepIn K (.ref f2) = true)
    (a3 : PySem.W.nsIn K mainGlobals "_law_bent" = some (some (.ref f3)))
    (l3 : K.lookup f3 = some ⟨oc3, od3, .func (PySem.W.fnOf "_law_bent" "_law_bent" (defArgs s__law_bent) (defBody s__law_bent) (defScope s__law_bent) .none kV3 dc3 pm3 an3 cd3 ct3), sl3⟩) (e3 : PySem.W.codeIn K cd3 "_law_bent" = true) (k3 : PySem.W.keepIn K (.ref f3) = true)
    (a4 : PySem.W.nsIn K mainGlobals "_law_led" = some (some (.ref f4)))
    (l4 : K.lookup f4 = some ⟨oc4, od4, .func (PySem.W.fnOf "_law_led" "_law_led" (defArgs s__law_led) (defBody s__law_led) (defScope s__law_led) .none kV4 dc4 pm4 an4 cd4 ct4), sl4⟩) (e4 : PySem.W.codeIn K cd4 "_law_led" = true) (k4 : PySem.W.keepIn K (.ref f4) = true)
    (a5 : PySem.W.nsIn K mainGlobals "_law_cross" = some (some (.ref f5)))
    (l5 : K.lookup f5 = some ⟨oc5, od5, .func (PySem.W.fnOf "_law_cross" "_law_cross" (defArgs s__law_cross) (defBody s__law_cross) (defScope s__law_cross) .none kV5 dc5 pm5 an5 cd5 ct5), sl5⟩) (e5 : PySem.W.codeIn K cd5 "_law_cross" = true) (k5 : PySem.W.keepIn K (.ref f5) = true)
    (a6 : PySem.W.nsIn K mainGlobals "_law_near" = some (some (.ref f6)))
    (l6 : K.lookup f6 = some ⟨oc6, od6, .func (PySem.W.fnOf "_law_near" "_law_near" (defArgs s__law_near) (defBody s__law_near) (defScope s__law_near) .none kV6 dc6 pm6 an6 cd6 ct6), sl6⟩) (e6 : PySem.W.codeIn K cd6 "_law_near" = true) (k6 : PySem.W.keepIn K (.ref f6) = true)
    (a7 : PySem.W.nsIn K mainGlobals "_law_brought" = some (some (.ref f7)))
    (l7 : K.lookup f7 = some ⟨oc7, od7, .func (PySem.W.fnOf "_law_brought" "_law_brought" (defArgs s__law_brought) (defBody s__law_brought) (defScope s__law_brought) .none kV7 dc7 pm7 an7 cd7 ct7), sl7⟩) (e7 : PySem.W.codeIn K cd7 "_law_brought" = true) (k7 : PySem.W.keepIn K (.ref f7) = true)
    (a8 : PySem.W.nsIn K mainGlobals "_law_sum" = some (some (.ref f8)))
    (l8 : K.lookup f8 = some ⟨oc8, od8, .func (PySem.W.fnOf "_law_sum" "_law_sum" (defArgs s__law_sum) (defBody s__law_sum) (defScope s__law_sum) .none kV8 dc8 pm8 an8 cd8 ct8), sl8⟩) (e8 : PySem.W.codeIn K cd8 "_law_sum" = true) (k8 : PySem.W.keepIn K (.ref f8) = true)
    (a9 : PySem.W.nsIn K mainGlobals "_law_both" = some (some (.ref f9)))
    (l9 : K.lookup f9 = some ⟨oc9, od9, .func (PySem.W.fnOf "_law_both" "_law_both" (defArgs s__law_both) (defBody s__law_both) (defScope s__law_both) .none kV9 dc9 pm9 an9 cd9 ct9), sl9⟩) (e9 : PySem.W.codeIn K cd9 "_law_both" = true) (k9 : PySem.W.keepIn K (.ref f9) = true)
    (a10 : PySem.W.nsIn K mainGlobals "_law_turning" = some (some (.ref f10)))
    (l10 : K.lookup f10 = some ⟨oc10, od10, .func (PySem.W.fnOf "_law_turning" "_law_turning" (defArgs s__law_turning) (defBody s__law_turning) (defScope s__law_turning) .none kV10 dc10 pm10 an10 cd10 ct10), sl10⟩) (e10 : PySem.W.codeIn K cd10 "_law_turning" = true) (k10 : PySem.W.keepIn K (.ref f10) = true)
    (a11 : PySem.W.nsIn K mainGlobals "_law_smooth" = some (some (.ref f11)))
    (l11 : K.lookup f11 = some ⟨oc11, od11, .func (PySem.W.fnOf "_law_smooth" "_law_smooth" (defArgs s__law_smooth) (defBody s__law_smooth) (defScope s__law_smooth) .none kV11 dc11 pm11 an11 cd11 ct11), sl11⟩) (e11 : PySem.W.codeIn K cd11 "_law_smooth" = true) (k11 : PySem.W.keepIn K (.ref f11) = true)
    (a12 : PySem.W.nsIn K mainGlobals "_law_put" = some (some (.ref f12)))
    (l12 : K.lookup f12 = some ⟨oc12, od12, .func (PySem.W.fnOf "_law_put" "_law_put" (defArgs s__law_put) (defBody s__law_put) (defScope s__law_put) .none kV12 dc12 pm12 an12 cd12 ct12), sl12⟩) (e12 : PySem.W.codeIn K cd12 "_law_put" = true) (k12 : PySem.W.keepIn K (.ref f12) = true)
    (a13 : PySem.W.nsIn K mainGlobals "_law_straight" = some (some (.ref f13)))
    (l13 : K.lookup f13 = some ⟨oc13, od13, .func (PySem.W.fnOf "_law_straight" "_law_straight" (defArgs s__law_straight) (defBody s__law_straight) (defScope s__law_straight) .none kV13 dc13 pm13 an13 cd13 ct13), sl13⟩) (e13 : PySem.W.codeIn K cd13 "_law_straight" = true) (k13 : PySem.W.keepIn K (.ref f13) = true)
    (a14 : PySem.W.nsIn K mainGlobals "_law_any" = some (some (.ref f14)))
    (l14 : K.lookup f14 = some ⟨oc14, od14, .func (PySem.W.fnOf "_law_any" "_law_any" (defArgs s__law_any) (defBody s__law_any) (defScope s__law_any) .none kV14 dc14 pm14 an14 cd14 ct14), sl14⟩) (e14 : PySem.W.codeIn K cd14 "_law_any" = true) (k14 : PySem.W.keepIn K (.ref f14) = true)
    (a15 : PySem.W.nsIn K mainGlobals "_law_whole" = some (some (.ref f15)))
    (l15 : K.lookup f15 = some ⟨oc15, od15, .func (PySem.W.fnOf "_law_whole" "_law_whole" (defArgs s__law_whole) (defBody s__law_whole) (defScope s__law_whole) .none kV15 dc15 pm15 an15 cd15 ct15), sl15⟩) (e15 : PySem.W.codeIn K cd15 "_law_whole" = true) (k15 : PySem.W.keepIn K (.ref f15) = true)
    (a16 : PySem.W.nsIn K mainGlobals "_law_is_ray" = some (some (.ref f16)))
    (l16 : K.lookup f16 = some ⟨oc16, od16, .func (PySem.W.fnOf "_law_is_ray" "_law_is_ray" (defArgs s__law_is_ray) (defBody s__law_is_ray) (defScope s__law_is_ray) .none kV16 dc16 pm16 an16 cd16 ct16), sl16⟩) (e16 : PySem.W.codeIn K cd16 "_law_is_ray" = true) (k16 : PySem.W.keepIn K (.ref f16) = true)
    (a17 : PySem.W.nsIn K mainGlobals "_law_has_east" = some (some (.ref f17)))
    (l17 : K.lookup f17 = some ⟨oc17, od17, .func (PySem.W.fnOf "_law_has_east" "_law_has_east" (defArgs s__law_has_east) (defBody s__law_has_east) (defScope s__law_has_east) .none kV17 dc17 pm17 an17 cd17 ct17), sl17⟩) (e17 : PySem.W.codeIn K cd17 "_law_has_east" = true) (k17 : PySem.W.keepIn K (.ref f17) = true)
    (a18 : PySem.W.nsIn K mainGlobals "_law_fault" = some (some (.ref f18)))
    (l18 : K.lookup f18 = some ⟨oc18, od18, .func (PySem.W.fnOf "_law_fault" "_law_fault" (defArgs s__law_fault) (defBody s__law_fault) (defScope s__law_fault) .none kV18 dc18 pm18 an18 cd18 ct18), sl18⟩) (e18 : PySem.W.codeIn K cd18 "_law_fault" = true) (k18 : PySem.W.keepIn K (.ref f18) = true)
    (a19 : PySem.W.nsIn K mainGlobals "wedges" = some (some (.ref f19)))
    (l19 : K.lookup f19 = some ⟨oc19, od19, .func (PySem.W.fnOf "wedges" "wedges" (defArgs s_wedges) (defBody s_wedges) (defScope s_wedges) .none kV19 dc19 pm19 an19 cd19 ct19), sl19⟩) (e19 : PySem.W.codeIn K cd19 "wedges" = true) (k19 : PySem.W.keepIn K (.ref f19) = true)
    (a20 : PySem.W.nsIn K mainGlobals "is_whole" = some (some (.ref f20)))
    (l20 : K.lookup f20 = some ⟨oc20, od20, .func (PySem.W.fnOf "is_whole" "is_whole" (defArgs s_is_whole) (defBody s_is_whole) (defScope s_is_whole) .none kV20 dc20 pm20 an20 cd20 ct20), sl20⟩) (e20 : PySem.W.codeIn K cd20 "is_whole" = true) (k20 : PySem.W.keepIn K (.ref f20) = true)
    (a21 : PySem.W.nsIn K mainGlobals "is_pair" = some (some (.ref f21)))
    (l21 : K.lookup f21 = some ⟨oc21, od21, .func (PySem.W.fnOf "is_pair" "is_pair" (defArgs s_is_pair) (defBody s_is_pair) (defScope s_is_pair) .none kV21 dc21 pm21 an21 cd21 ct21), sl21⟩) (e21 : PySem.W.codeIn K cd21 "is_pair" = true) (k21 : PySem.W.keepIn K (.ref f21) = true)
    (a22 : PySem.W.nsIn K mainGlobals "divisor" = some (some (.ref f22)))
    (l22 : K.lookup f22 = some ⟨oc22, od22, .func (PySem.W.fnOf "divisor" "divisor" (defArgs s_divisor) (defBody s_divisor) (defScope s_divisor) .none kV22 dc22 pm22 an22 cd22 ct22), sl22⟩) (e22 : PySem.W.codeIn K cd22 "divisor" = true) (k22 : PySem.W.keepIn K (.ref f22) = true)
    (a23 : PySem.W.nsIn K mainGlobals "common" = some (some (.ref f23)))
    (l23 : K.lookup f23 = some ⟨oc23, od23, .func (PySem.W.fnOf "common" "common" (defArgs s_common) (defBody s_common) (defScope s_common) .none kV23 dc23 pm23 an23 cd23 ct23), sl23⟩) (e23 : PySem.W.codeIn K cd23 "common" = true) (k23 : PySem.W.keepIn K (.ref f23) = true)
    (a24 : PySem.W.nsIn K mainGlobals "is_ray" = some (some (.ref f24)))
    (l24 : K.lookup f24 = some ⟨oc24, od24, .func (PySem.W.fnOf "is_ray" "is_ray" (defArgs s_is_ray) (defBody s_is_ray) (defScope s_is_ray) .none kV24 dc24 pm24 an24 cd24 ct24), sl24⟩) (e24 : PySem.W.codeIn K cd24 "is_ray" = true) (k24 : PySem.W.keepIn K (.ref f24) = true)
    (a25 : PySem.W.nsIn K mainGlobals "crossed" = some (some (.ref f25)))
    (l25 : K.lookup f25 = some ⟨oc25, od25, .func (PySem.W.fnOf "crossed" "crossed" (defArgs s_crossed) (defBody s_crossed) (defScope s_crossed) .none kV25 dc25 pm25 an25 cd25 ct25), sl25⟩) (e25 : PySem.W.codeIn K cd25 "crossed" = true) (k25 : PySem.W.keepIn K (.ref f25) = true)
    (a26 : PySem.W.nsIn K mainGlobals "has_east" = some (some (.ref f26)))
    (l26 : K.lookup f26 = some ⟨oc26, od26, .func (PySem.W.fnOf "has_east" "has_east" (defArgs s_has_east) (defBody s_has_east) (defScope s_has_east) .none kV26 dc26 pm26 an26 cd26 ct26), sl26⟩) (e26 : PySem.W.codeIn K cd26 "has_east" = true) (k26 : PySem.W.keepIn K (.ref f26) = true)
    (a27 : PySem.W.nsIn K mainGlobals "look_round" = some (some (.ref f27)))
    (l27 : K.lookup f27 = some ⟨oc27, od27, .func (PySem.W.fnOf "look_round" "look_round" (defArgs s_look_round) (defBody s_look_round) (defScope s_look_round) .none kV27 dc27 pm27 an27 cd27 ct27), sl27⟩) (e27 : PySem.W.codeIn K cd27 "look_round" = true) (k27 : PySem.W.keepIn K (.ref f27) = true)
    (a28 : PySem.W.nsIn K mainGlobals "_law_classes" = some (some (.ref f28)))
    (l28 : K.lookup f28 = some ⟨oc28, od28, .func (PySem.W.fnOf "_law_classes" "_law_classes" (defArgs s__law_classes) (defBody s__law_classes) (defScope s__law_classes) .none kV28 dc28 pm28 an28 cd28 ct28), sl28⟩) (e28 : PySem.W.codeIn K cd28 "_law_classes" = true) (k28 : PySem.W.keepIn K (.ref f28) = true)
    (a29 : PySem.W.nsIn K mainGlobals "_law_looked" = some (some (.ref f29)))
    (l29 : K.lookup f29 = some ⟨oc29, od29, .func (PySem.W.fnOf "_law_looked" "_law_looked" (defArgs s__law_looked) (defBody s__law_looked) (defScope s__law_looked) .none kV29 dc29 pm29 an29 cd29 ct29), sl29⟩) (e29 : PySem.W.codeIn K cd29 "_law_looked" = true) (k29 : PySem.W.keepIn K (.ref f29) = true)
    (a30 : PySem.W.nsIn K mainGlobals "_law_again" = some (some (.ref f30)))
    (l30 : K.lookup f30 = some ⟨oc30, od30, .func (PySem.W.fnOf "_law_again" "_law_again" (defArgs s__law_again) (defBody s__law_again) (defScope s__law_again) .none kV30 dc30 pm30 an30 cd30 ct30), sl30⟩) (e30 : PySem.W.codeIn K cd30 "_law_again" = true) (k30 : PySem.W.keepIn K (.ref f30) = true)
    (a31 : PySem.W.nsIn K mainGlobals "law" = some (some (.ref f31)))
    (l31 : K.lookup f31 = some ⟨oc31, od31, .func (PySem.W.fnOf "law" "law" (defArgs s_law) (defBody s_law) (defScope s_law) .none kV31 dc31 pm31 an31 cd31 ct31), sl31⟩) (e31 : PySem.W.codeIn K cd31 "law" = true) (k31 : PySem.W.keepIn K (.ref f31) = true)
    (y_len : PySem.W.nsIn K mainGlobals "len" = some none)
    (y_abs : PySem.W.nsIn K mainGlobals "abs" = some none)
    (y_int : PySem.W.nsIn K mainGlobals "int" = some none)
    (y_tuple : PySem.W.nsIn K mainGlobals "tuple" = some none)
    (y_all : PySem.W.nsIn K mainGlobals "all" = some none)
    (y_list : PySem.W.nsIn K mainGlobals "list" = some none)
    (y_range : PySem.W.nsIn K mainGlobals "range" = some none)
    (y_isinstance : PySem.W.nsIn K mainGlobals "isinstance" = some none)
    (y_bool : PySem.W.nsIn K mainGlobals "bool" = some none)
    (y_enumerate : PySem.W.nsIn K mainGlobals "enumerate" = some none)
    (y_zip : PySem.W.nsIn K mainGlobals "zip" = some none)
    (y_str : PySem.W.nsIn K mainGlobals "str" = some none)
    (y_max : PySem.W.nsIn K mainGlobals "max" = some none)
    (y_min : PySem.W.nsIn K mainGlobals "min" = some none)
    (y_repr : PySem.W.nsIn K mainGlobals "repr" = some none)
    (xn_NoRound : PySem.W.nsIn K mainGlobals "NoRound" = some (some (.ref xa_NoRound)))
    (xn_NoRatio : PySem.W.nsIn K mainGlobals "NoRatio" = some (some (.ref xa_NoRatio)))
    (xn_NoTurning : PySem.W.nsIn K mainGlobals "NoTurning" = some (some (.ref xa_NoTurning)))
    (xn_NotSmooth : PySem.W.nsIn K mainGlobals "NotSmooth" = some (some (.ref xa_NotSmooth)))
    (xn_NoWedge : PySem.W.nsIn K mainGlobals "NoWedge" = some (some (.ref xa_NoWedge)))
    (xn_NoRow : PySem.W.nsIn K mainGlobals "NoRow" = some (some (.ref xa_NoRow)))
    (xn_NoPlace : PySem.W.nsIn K mainGlobals "NoPlace" = some (some (.ref xa_NoPlace)))
    (xn_NoMinus : PySem.W.nsIn K mainGlobals "NoMinus" = some (some (.ref xa_NoMinus)))
    (xn_NoFour : PySem.W.nsIn K mainGlobals "NoFour" = some (some (.ref xa_NoFour)))
    (xn_NoHeight : PySem.W.nsIn K mainGlobals "NoHeight" = some (some (.ref xa_NoHeight)))
    (xn_NoBend : PySem.W.nsIn K mainGlobals "NoBend" = some (some (.ref xa_NoBend)))
    (xn_NoBody : PySem.W.nsIn K mainGlobals "NoBody" = some (some (.ref xa_NoBody)))
    (xn_NoOne : PySem.W.nsIn K mainGlobals "NoOne" = some (some (.ref xa_NoOne)))
    (xn_NoText : PySem.W.nsIn K mainGlobals "NoText" = some (some (.ref xa_NoText)))
    (xn_Unknown : PySem.W.nsIn K mainGlobals "Unknown" = some (some (.ref xa_Unknown)))
    (xn_RayError : PySem.W.nsIn K mainGlobals "RayError" = some (some (.ref xa_RayError)))
    (xg6 : PySem.W.specialIn K (.builtin "object.__class__") "__get__" = some (some (.builtin "getset_descriptor.__get__"))) (xg7 : PySem.W.takesIn K (.builtin "object.__class__") = some true)
    (q1_NoRound : PySem.W.findIn K (.ref xa_NoRound) "__getattribute__" = some (some (.builtin "BaseException.__getattribute__"))) (q2_NoRound : PySem.W.findIn K (.ref xa_NoRound) "__getattr__" = some none) (q3_NoRound : PySem.W.subIn K (.ref xa_NoRound) (.type "BaseException") = some true) (q4_NoRound : PySem.W.hasDictIn K xa_NoRound = true) (q5_NoRound : PySem.W.findIn K (.ref xa_NoRound) "__class__" = some (some (.builtin "object.__class__"))) (q8_NoRound : PySem.W.mroIn K xa_NoRound (.type "object") = some true)
    (tt_NoRatio : PySem.W.typeIn K (.ref xa_NoRatio) = some (.type "type"))
    (q4_NoRatio : PySem.W.hasDictIn K xa_NoRatio = true)
    (tt_NoTurning : PySem.W.typeIn K (.ref xa_NoTurning) = some (.type "type"))
    (q4_NoTurning : PySem.W.hasDictIn K xa_NoTurning = true)
    (tt_NoRound : PySem.W.typeIn K (.ref xa_NoRound) = some (.type "type"))
    (tt_NotSmooth : PySem.W.typeIn K (.ref xa_NotSmooth) = some (.type "type"))
    (q4_NotSmooth : PySem.W.hasDictIn K xa_NotSmooth = true)
    (tt_NoWedge : PySem.W.typeIn K (.ref xa_NoWedge) = some (.type "type"))
    (q4_NoWedge : PySem.W.hasDictIn K xa_NoWedge = true)
    (tt_NoRow : PySem.W.typeIn K (.ref xa_NoRow) = some (.type "type"))
    (q4_NoRow : PySem.W.hasDictIn K xa_NoRow = true)
    (tt_NoPlace : PySem.W.typeIn K (.ref xa_NoPlace) = some (.type "type"))
    (q4_NoPlace : PySem.W.hasDictIn K xa_NoPlace = true)
    (tt_NoMinus : PySem.W.typeIn K (.ref xa_NoMinus) = some (.type "type"))
    (q4_NoMinus : PySem.W.hasDictIn K xa_NoMinus = true)
    (tt_NoFour : PySem.W.typeIn K (.ref xa_NoFour) = some (.type "type"))
    (q4_NoFour : PySem.W.hasDictIn K xa_NoFour = true)
    (tt_NoHeight : PySem.W.typeIn K (.ref xa_NoHeight) = some (.type "type"))
    (q4_NoHeight : PySem.W.hasDictIn K xa_NoHeight = true)
    (tt_NoBend : PySem.W.typeIn K (.ref xa_NoBend) = some (.type "type"))
    (q4_NoBend : PySem.W.hasDictIn K xa_NoBend = true)
    (tt_NoBody : PySem.W.typeIn K (.ref xa_NoBody) = some (.type "type"))
    (q4_NoBody : PySem.W.hasDictIn K xa_NoBody = true)
    (tt_NoOne : PySem.W.typeIn K (.ref xa_NoOne) = some (.type "type"))
    (q4_NoOne : PySem.W.hasDictIn K xa_NoOne = true)
    (tt_NoText : PySem.W.typeIn K (.ref xa_NoText) = some (.type "type"))
    (q4_NoText : PySem.W.hasDictIn K xa_NoText = true)
    (tt_Unknown : PySem.W.typeIn K (.ref xa_Unknown) = some (.type "type"))
    (q4_Unknown : PySem.W.hasDictIn K xa_Unknown = true)
    (tt_RayError : PySem.W.typeIn K (.ref xa_RayError) = some (.type "type"))
    (q4_RayError : PySem.W.hasDictIn K xa_RayError = true)
    (q3_RayError : PySem.W.subIn K (.ref xa_RayError) (.type "BaseException") = some true)
    (sb_NoRound_NoRatio : PySem.W.subIn K (.ref xa_NoRound) (.ref xa_NoRatio) = some false)
    (sb_NoRound_NoTurning : PySem.W.subIn K (.ref xa_NoRound) (.ref xa_NoTurning) = some false)
    (sb_NoRound_NoRound : PySem.W.subIn K (.ref xa_NoRound) (.ref xa_NoRound) = some true)
    (sb_NoRound_NotSmooth : PySem.W.subIn K (.ref xa_NoRound) (.ref xa_NotSmooth) = some false)
    (sb_NoRound_NoWedge : PySem.W.subIn K (.ref xa_NoRound) (.ref xa_NoWedge) = some false)
    (sb_NoRound_NoRow : PySem.W.subIn K (.ref xa_NoRound) (.ref xa_NoRow) = some false)
    (sb_NoRound_NoPlace : PySem.W.subIn K (.ref xa_NoRound) (.ref xa_NoPlace) = some false)
    (sb_NoRound_NoMinus : PySem.W.subIn K (.ref xa_NoRound) (.ref xa_NoMinus) = some false)
    (sb_NoRound_NoFour : PySem.W.subIn K (.ref xa_NoRound) (.ref xa_NoFour) = some false)
    (sb_NoRound_NoHeight : PySem.W.subIn K (.ref xa_NoRound) (.ref xa_NoHeight) = some false)
    (sb_NoRound_NoBend : PySem.W.subIn K (.ref xa_NoRound) (.ref xa_NoBend) = some false)
    (sb_NoRound_NoBody : PySem.W.subIn K (.ref xa_NoRound) (.ref xa_NoBody) = some false)
    (sb_NoRound_NoOne : PySem.W.subIn K (.ref xa_NoRound) (.ref xa_NoOne) = some false)
    (sb_NoRound_NoText : PySem.W.subIn K (.ref xa_NoRound) (.ref xa_NoText) = some false)
    (sb_NoRound_Unknown : PySem.W.subIn K (.ref xa_NoRound) (.ref xa_Unknown) = some false)
    (sb_NoRound_ValueError : PySem.W.subIn K (.ref xa_NoRound) (.type "ValueError") = some true)
    (sb_NoRound_RayError : PySem.W.subIn K (.ref xa_NoRound) (.ref xa_RayError) = some true)
    (y_ValueError : PySem.W.nsIn K mainGlobals "ValueError" = some none)
    (ol_NoRound : K.lookup xa_NoRound = some ⟨.type "type", odd_NoRound, .cls ⟨onm_NoRound, obs_NoRound, .ref xa_NoRound :: obm_NoRound, oN_NoRound, oqn_NoRound, true, osn_NoRound, osub_NoRound, oab_NoRound, ocol_NoRound, false⟩, #[ok0_NoRound, ok1_NoRound, ok2_NoRound, ok3_NoRound, some (.builtin "ValueError.__new__"), ok5_NoRound]⟩) (o_ve_NoRound : PySem.HandSPX.refsVE obm_NoRound = true)
    (i1_NoRound : PySem.W.findIn K (.ref xa_NoRound) "__setattr__" = some (some (.builtin "object.__setattr__"))) (i2_NoRound : PySem.W.subIn K (.ref xa_NoRound) (.type "BaseException") = some true) (i3_NoRound : PySem.W.typeIn K (.ref xa_NoRound) = some (.type "type")) (i4_NoRound : PySem.W.keepIn K (.ref xa_NoRound) = true) (i5_NoRound : PySem.W.findIn K (.ref xa_NoRound) "__init__" = some (some (.ref fi_NoRound))) (i6_NoRound : PySem.W.typeIn K (.ref fi_NoRound) = some (.type "function"))
    (il_NoRound : K.lookup fi_NoRound = some ⟨ioc_NoRound, iod_NoRound, .func (PySem.W.fnOf "__init__" "NoRound.__init__" (defArgs i_NoRound) (defBody i_NoRound) (defScope i_NoRound) .none ikV_NoRound idc_NoRound ipm_NoRound ian_NoRound icd_NoRound ict_NoRound), isl_NoRound⟩) (ie_NoRound : PySem.W.codeIn K icd_NoRound "NoRound.__init__" = true) (ik_NoRound : PySem.W.keepIn K (.ref fi_NoRound) = true)
    (i7_NoRound : PySem.W.readsIn K xa_RayError (.type "type") = true) (i8_NoRound : PySem.W.specialIn K (.ref xa_RayError) "__getattribute__" = some (some (.builtin "type.__getattribute__"))) (i9_NoRound : PySem.W.findCls K (.ref xa_RayError) (.type "type") "__init__" = some (.val (.builtin "ValueError.__init__")))
    (if_NoRound_where : PySem.W.findIn K (.ref xa_NoRound) "where" = some none) (if_NoRound_at : PySem.W.findIn K (.ref xa_NoRound) "at" = some none)
    (n_EAST : PySem.W.nsIn K mainGlobals "EAST" = some (some (.ref ca_EAST))) (m_EAST : K.lookup ca_EAST = some co_EAST) (o_EAST : co_EAST.cls = .type "tuple") (p_EAST : co_EAST.data = .seq ct_EAST.toArray cn0_EAST) (q_EAST : cstD ct_EAST = some [(.int 1), (.int 0)])
    (n_FEWEST : PySem.W.nsIn K mainGlobals "FEWEST" = some (some cv_FEWEST)) (q_FEWEST : cstV cv_FEWEST = some (.int 3)) :
    ∃ fd : FuncData, (∀ (s : Shared) (v : Value), BindsTo s fd ⟨[v], []⟩ [("_law_script", v)]) ∧ ∀ base : Heap, K.In base → base.Ns mainGlobals mg → FnG l.prog w K mg base 6 fa fd ["_law_script"] (spLawH K) := by
  have z_len := PySem.W.mg_none_of X G y_len
  have z_abs := PySem.W.mg_none_of X G y_abs
  have z_int := PySem.W.mg_none_of X G y_int
  have z_tuple := PySem.W.mg_none_of X G y_tuple
  have z_all := PySem.W.mg_none_of X G y_all
  have z_list := PySem.W.mg_none_of X G y_list
  have z_range := PySem.W.mg_none_of X G y_range
  have z_isinstance := PySem.W.mg_none_of X G y_isinstance
  have z_bool := PySem.W.mg_none_of X G y_bool
  have z_enumerate := PySem.W.mg_none_of X G y_enumerate
  have z_zip := PySem.W.mg_none_of X G y_zip
  have z_str := PySem.W.mg_none_of X G y_str
  have z_max := PySem.W.mg_none_of X G y_max
  have z_min := PySem.W.mg_none_of X G y_min
  have z_repr := PySem.W.mg_none_of X G y_repr
  have exc_NoRound : ExcC K xa_NoRound := ⟨q1_NoRound, q2_NoRound, q3_NoRound, q4_NoRound, q5_NoRound, xg6, xg7, q8_NoRound⟩
  have kt_NoRound_NoRatio := kit_own sb_NoRound_NoRatio sb_NoRound_NoRound q4_NoRatio tt_NoRatio
  have if_NoRatio : IsF K mg ["NoRound"] "NoRatio" := ⟨xa_NoRatio, PySem.W.mg_of X G xn_NoRatio, allL_of ⟨⟨xa_NoRound, PySem.W.mg_of X G xn_NoRound, exc_NoRound, kt_NoRound_NoRatio⟩, trivial⟩⟩
  have kt_NoRound_NoTurning := kit_own sb_NoRound_NoTurning sb_NoRound_NoRound q4_NoTurning tt_NoTurning
  have if_NoTurning : IsF K mg ["NoRound"] "NoTurning" := ⟨xa_NoTurning, PySem.W.mg_of X G xn_NoTurning, allL_of ⟨⟨xa_NoRound, PySem.W.mg_of X G xn_NoRound, exc_NoRound, kt_NoRound_NoTurning⟩, trivial⟩⟩
  have kt_NoRound_NoRound := kit_own sb_NoRound_NoRound sb_NoRound_NoRound q4_NoRound tt_NoRound
  have if_NoRound : IsF K mg ["NoRound"] "NoRound" := ⟨xa_NoRound, PySem.W.mg_of X G xn_NoRound, allL_of ⟨⟨xa_NoRound, PySem.W.mg_of X G xn_NoRound, exc_NoRound, kt_NoRound_NoRound⟩, trivial⟩⟩
  have kt_NoRound_NotSmooth := kit_own sb_NoRound_NotSmooth sb_NoRound_NoRound q4_NotSmooth tt_NotSmooth
  have if_NotSmooth : IsF K mg ["NoRound"] "NotSmooth" := ⟨xa_NotSmooth, PySem.W.mg_of X G xn_NotSmooth, allL_of ⟨⟨xa_NoRound, PySem.W.mg_of X G xn_NoRound, exc_NoRound, kt_NoRound_NotSmooth⟩, trivial⟩⟩
  have kt_NoRound_NoWedge := kit_own sb_NoRound_NoWedge sb_NoRound_NoRound q4_NoWedge tt_NoWedge
  have if_NoWedge : IsF K mg ["NoRound"] "NoWedge" := ⟨xa_NoWedge, PySem.W.mg_of X G xn_NoWedge, allL_of ⟨⟨xa_NoRound, PySem.W.mg_of X G xn_NoRound, exc_NoRound, kt_NoRound_NoWedge⟩, trivial⟩⟩
  have kt_NoRound_NoRow := kit_own sb_NoRound_NoRow sb_NoRound_NoRound q4_NoRow tt_NoRow
  have if_NoRow : IsF K mg ["NoRound"] "NoRow" := ⟨xa_NoRow, PySem.W.mg_of X G xn_NoRow, allL_of ⟨⟨xa_NoRound, PySem.W.mg_of X G xn_NoRound, exc_NoRound, kt_NoRound_NoRow⟩, trivial⟩⟩
  have kt_NoRound_NoPlace := kit_own sb_NoRound_NoPlace sb_NoRound_NoRound q4_NoPlace tt_NoPlace
  have if_NoPlace : IsF K mg ["NoRound"] "NoPlace" := ⟨xa_NoPlace, PySem.W.mg_of X G xn_NoPlace, allL_of ⟨⟨xa_NoRound, PySem.W.mg_of X G xn_NoRound, exc_NoRound, kt_NoRound_NoPlace⟩, trivial⟩⟩
  have kt_NoRound_NoMinus := kit_own sb_NoRound_NoMinus sb_NoRound_NoRound q4_NoMinus tt_NoMinus
  have if_NoMinus : IsF K mg ["NoRound"] "NoMinus" := ⟨xa_NoMinus, PySem.W.mg_of X G xn_NoMinus, allL_of ⟨⟨xa_NoRound, PySem.W.mg_of X G xn_NoRound, exc_NoRound, kt_NoRound_NoMinus⟩, trivial⟩⟩
  have kt_NoRound_NoFour := kit_own sb_NoRound_NoFour sb_NoRound_NoRound q4_NoFour tt_NoFour
  have if_NoFour : IsF K mg ["NoRound"] "NoFour" := ⟨xa_NoFour, PySem.W.mg_of X G xn_NoFour, allL_of ⟨⟨xa_NoRound, PySem.W.mg_of X G xn_NoRound, exc_NoRound, kt_NoRound_NoFour⟩, trivial⟩⟩
  have kt_NoRound_NoHeight := kit_own sb_NoRound_NoHeight sb_NoRound_NoRound q4_NoHeight tt_NoHeight
  have if_NoHeight : IsF K mg ["NoRound"] "NoHeight" := ⟨xa_NoHeight, PySem.W.mg_of X G xn_NoHeight, allL_of ⟨⟨xa_NoRound, PySem.W.mg_of X G xn_NoRound, exc_NoRound, kt_NoRound_NoHeight⟩, trivial⟩⟩
  have kt_NoRound_NoBend := kit_own sb_NoRound_NoBend sb_NoRound_NoRound q4_NoBend tt_NoBend
  have if_NoBend : IsF K mg ["NoRound"] "NoBend" := ⟨xa_NoBend, PySem.W.mg_of X G xn_NoBend, allL_of ⟨⟨xa_NoRound, PySem.W.mg_of X G xn_NoRound, exc_NoRound, kt_NoRound_NoBend⟩, trivial⟩⟩
  have kt_NoRound_NoBody := kit_own sb_NoRound_NoBody sb_NoRound_NoRound q4_NoBody tt_NoBody
  have if_NoBody : IsF K mg ["NoRound"] "NoBody" := ⟨xa_NoBody, PySem.W.mg_of X G xn_NoBody, allL_of ⟨⟨xa_NoRound, PySem.W.mg_of X G xn_NoRound, exc_NoRound, kt_NoRound_NoBody⟩, trivial⟩⟩
  have kt_NoRound_NoOne := kit_own sb_NoRound_NoOne sb_NoRound_NoRound q4_NoOne tt_NoOne
  have if_NoOne : IsF K mg ["NoRound"] "NoOne" := ⟨xa_NoOne, PySem.W.mg_of X G xn_NoOne, allL_of ⟨⟨xa_NoRound, PySem.W.mg_of X G xn_NoRound, exc_NoRound, kt_NoRound_NoOne⟩, trivial⟩⟩
  have kt_NoRound_NoText := kit_own sb_NoRound_NoText sb_NoRound_NoRound q4_NoText tt_NoText
  have if_NoText : IsF K mg ["NoRound"] "NoText" := ⟨xa_NoText, PySem.W.mg_of X G xn_NoText, allL_of ⟨⟨xa_NoRound, PySem.W.mg_of X G xn_NoRound, exc_NoRound, kt_NoRound_NoText⟩, trivial⟩⟩
  have kt_NoRound_Unknown := kit_own sb_NoRound_Unknown sb_NoRound_NoRound q4_Unknown tt_Unknown
  have if_Unknown : IsF K mg ["NoRound"] "Unknown" := ⟨xa_Unknown, PySem.W.mg_of X G xn_Unknown, allL_of ⟨⟨xa_NoRound, PySem.W.mg_of X G xn_NoRound, exc_NoRound, kt_NoRound_Unknown⟩, trivial⟩⟩
  have kt_NoRound_ValueError := kit_blt sb_NoRound_ValueError (by decide +kernel)
  have ib_ValueError : IsB K mg ["NoRound"] "ValueError" := ⟨PySem.W.mg_none_of X G y_ValueError, allL_of ⟨⟨xa_NoRound, PySem.W.mg_of X G xn_NoRound, exc_NoRound, kt_NoRound_ValueError⟩, trivial⟩⟩
  have ct_NoRound_RayError := PySem.W.exm_ref q3_RayError q4_RayError tt_RayError sb_NoRound_RayError
  have cat_RayError : Catches K mg ["NoRound"] "RayError" := ⟨.ref xa_RayError, PySem.W.mg_of X G xn_RayError, allL_of ⟨⟨xa_NoRound, PySem.W.mg_of X G xn_NoRound, ct_NoRound_RayError⟩, trivial⟩⟩
  have fl_NoRound_where : XFld K mg "NoRound" "where" := ⟨xa_NoRound, PySem.W.mg_of X G xn_NoRound, ⟨q1_NoRound, q2_NoRound, q3_NoRound, q4_NoRound⟩, if_NoRound_where⟩
  have fl_NoRound_at : XFld K mg "NoRound" "at" := ⟨xa_NoRound, PySem.W.mg_of X G xn_NoRound, ⟨q1_NoRound, q2_NoRound, q3_NoRound, q4_NoRound⟩, if_NoRound_at⟩
  have cst_EAST : Cst K mg "EAST" cn_EAST := cst_tup (PySem.W.mg_of X G n_EAST) m_EAST o_EAST p_EAST q_EAST (by rw [cst_len q_EAST]; decide)
  have cst_FEWEST : Cst K mg "FEWEST" cn_FEWEST := cst_val (PySem.W.mg_of X G n_FEWEST) q_FEWEST
  have e0 := hfa.symm.trans (PySem.W.mg_of X G a31)
  cases e0
  refine ⟨PySem.W.fnOf "law" "law" (defArgs s_law) (defBody s_law) (defScope s_law) .none kV31 dc31 pm31 an31 cd31 ct31, fun s v => .of_eq rfl, fun base _ _ => ?_⟩
  have xi_NoRound : XInit l.prog w K mg base "NoRound" "where" "at" 1 := xinit_of (PySem.W.mg_of X G xn_NoRound) ⟨⟨_, _, _, _, _, _, _, _, _, _, _, _, _, _, _, ol_NoRound, o_ve_NoRound⟩, i1_NoRound, i2_NoRound, i3_NoRound, i4_NoRound⟩ i5_NoRound i6_NoRound (fun_mk (st := i_NoRound) il_NoRound ie_NoRound ik_NoRound) ((fun_mk (st := i_NoRound) il_NoRound ie_NoRound ik_NoRound).binds (ps := ["self", "words", "where", "at"]) fun _ _ _ _ _ _ us hl => match us, hl with | [_, _, _, _], _ => rfl) isc_NoRound if_NoRound_where if_NoRound_at fun cdv A outer s H E => pss_cons (ps_expr (pe_clsinit (by rfl) (PySem.W.mg_of X G xn_RayError) ⟨i7_NoRound, i8_NoRound⟩ i9_NoRound (pa_cons (pe_var (i := 0) rfl (Or.inl rfl)) (pa_cons (pe_var (i := 1) rfl (Or.inl rfl)) pa_nil)))) (pss_cons (ps_ost (pe_var (i := 0) rfl (Or.inl rfl)) (pe_var (i := 2) rfl (Or.inl rfl))) (pss_one (ps_ost (pe_var (i := 0) rfl (Or.inl rfl)) (pe_var (i := 3) rfl (Or.inl rfl)))))
  have d__law_bag : Dfn K mg "_law_bag" s__law_bag ["_law_script", "_law_k"] := ⟨_, _, fun_mk l0 e0 k0, PySem.W.mg_of X G a0, (fun_mk (st := s__law_bag) l0 e0 k0).binds (ps := ["_law_script", "_law_k"]) fun _ _ _ _ _ _ us hl => match us, hl with | [_, _], _ => rfl⟩
  have c__law_bag : Cal l.prog w K mg base 1 "_law_bag" ["_law_script", "_law_k"] [] sp__law_bag := ok__law_bag d__law_bag z_len z_abs z_int
  have d__law_digit : Dfn K mg "_law_digit" s__law_digit ["_law_bag_here", "_law_many"] := ⟨_, _, fun_mk l1 e1 k1, PySem.W.mg_of X G a1, (fun_mk (st := s__law_digit) l1 e1 k1).binds (ps := ["_law_bag_here", "_law_many"]) fun _ _ _ _ _ _ us hl => match us, hl with | [_, _], _ => rfl⟩
  have c__law_digit : Cal l.prog w K mg base 1 "_law_digit" ["_law_bag_here", "_law_many"] [0] sp__law_digit := ok__law_digit d__law_digit
  have d__law_odd : Dfn K mg "_law_odd" s__law_odd ["_law_bag_here", "_law_ray"] := ⟨_, _, fun_mk l2 e2 k2, PySem.W.mg_of X G a2, (fun_mk (st := s__law_odd) l2 e2 k2).binds (ps := ["_law_bag_here", "_law_ray"]) fun _ _ _ _ _ _ us hl => match us, hl with | [_, _], _ => rfl⟩
  have c__law_odd : Cal l.prog w K mg base 2 "_law_odd" ["_law_bag_here", "_law_ray"] [0] sp__law_odd := ok__law_odd d__law_odd c__law_digit
  have d__law_bent : Dfn K mg "_law_bent" s__law_bent ["_law_bag_here", "_law_rays"] := ⟨_, _, fun_mk l3 e3 k3, PySem.W.mg_of X G a3, (fun_mk (st := s__law_bent) l3 e3 k3).binds (ps := ["_law_bag_here", "_law_rays"]) fun _ _ _ _ _ _ us hl => match us, hl with | [_, _], _ => rfl⟩
  have c__law_bent : Cal l.prog w K mg base 3 "_law_bent" ["_law_bag_here", "_law_rays"] [0] sp__law_bent := ok__law_bent d__law_bent c__law_digit c__law_odd z_len z_tuple
  have d__law_led : Dfn K mg "_law_led" s__law_led ["_law_turning_here", "_law_pair"] := ⟨_, _, fun_mk l4 e4 k4, PySem.W.mg_of X G a4, (fun_mk (st := s__law_led) l4 e4 k4).binds (ps := ["_law_turning_here", "_law_pair"]) fun _ _ _ _ _ _ us hl => match us, hl with | [_, _], _ => rfl⟩
  have c__law_led : Cal l.prog w K mg base 1 "_law_led" ["_law_turning_here", "_law_pair"] [] sp__law_led := ok__law_led d__law_led
  have d__law_cross : Dfn K mg "_law_cross" s__law_cross ["_law_one", "_law_other"] := ⟨_, _, fun_mk l5 e5 k5, PySem.W.mg_of X G a5, (fun_mk (st := s__law_cross) l5 e5 k5).binds (ps := ["_law_one", "_law_other"]) fun _ _ _ _ _ _ us hl => match us, hl with | [_, _], _ => rfl⟩
  have c__law_cross : Cal l.prog w K mg base 1 "_law_cross" ["_law_one", "_law_other"] [] sp__law_cross := ok__law_cross d__law_cross
  have d__law_near : Dfn K mg "_law_near" s__law_near ["_law_pair"] := ⟨_, _, fun_mk l6 e6 k6, PySem.W.mg_of X G a6, (fun_mk (st := s__law_near) l6 e6 k6).binds (ps := ["_law_pair"]) fun _ _ _ _ _ _ us hl => match us, hl with | [_], _ => rfl⟩
  have c__law_near : Cal l.prog w K mg base 1 "_law_near" ["_law_pair"] [] sp__law_near := ok__law_near d__law_near z_abs
  have d__law_brought : Dfn K mg "_law_brought" s__law_brought ["_law_rays", "_law_turning_here", "_law_start"] := ⟨_, _, fun_mk l7 e7 k7, PySem.W.mg_of X G a7, (fun_mk (st := s__law_brought) l7 e7 k7).binds (ps := ["_law_rays", "_law_turning_here", "_law_start"]) fun _ _ _ _ _ _ us hl => match us, hl with | [_, _, _], _ => rfl⟩
  have c__law_brought : Cal l.prog w K mg base 2 "_law_brought" ["_law_rays", "_law_turning_here", "_law_start"] [] sp__law_brought := ok__law_brought d__law_brought c__law_led c__law_near c__law_cross z_all z_list
  have d__law_sum : Dfn K mg "_law_sum" s__law_sum ["_law_one", "_law_other"] := ⟨_, _, fun_mk l8 e8 k8, PySem.W.mg_of X G a8, (fun_mk (st := s__law_sum) l8 e8 k8).binds (ps := ["_law_one", "_law_other"]) fun _ _ _ _ _ _ us hl => match us, hl with | [_, _], _ => rfl⟩
  have c__law_sum : Cal l.prog w K mg base 1 "_law_sum" ["_law_one", "_law_other"] [] sp__law_sum := ok__law_sum d__law_sum
  have d__law_both : Dfn K mg "_law_both" s__law_both ["_law_one", "_law_other"] := ⟨_, _, fun_mk l9 e9 k9, PySem.W.mg_of X G a9, (fun_mk (st := s__law_both) l9 e9 k9).binds (ps := ["_law_one", "_law_other"]) fun _ _ _ _ _ _ us hl => match us, hl with | [_, _], _ => rfl⟩
  have c__law_both : Cal l.prog w K mg base 2 "_law_both" ["_law_one", "_law_other"] [] sp__law_both := ok__law_both d__law_both c__law_led
  have d__law_turning : Dfn K mg "_law_turning" s__law_turning ["_law_bag_here"] := ⟨_, _, fun_mk l10 e10 k10, PySem.W.mg_of X G a10, (fun_mk (st := s__law_turning) l10 e10 k10).binds (ps := ["_law_bag_here"]) fun _ _ _ _ _ _ us hl => match us, hl with | [_], _ => rfl⟩
  have c__law_turning : Cal l.prog w K mg base 3 "_law_turning" ["_law_bag_here"] [0] sp__law_turning := ok__law_turning d__law_turning c__law_digit c__law_both z_range
  have d__law_smooth : Dfn K mg "_law_smooth" s__law_smooth ["_law_bag_here"] := ⟨_, _, fun_mk l11 e11 k11, PySem.W.mg_of X G a11, (fun_mk (st := s__law_smooth) l11 e11 k11).binds (ps := ["_law_bag_here"]) fun _ _ _ _ _ _ us hl => match us, hl with | [_], _ => rfl⟩
  have c__law_smooth : Cal l.prog w K mg base 4 "_law_smooth" ["_law_bag_here"] [0] sp__law_smooth := ok__law_smooth d__law_smooth c__law_digit c__law_sum c__law_near c__law_brought c__law_turning z_range z_len
  have d__law_put : Dfn K mg "_law_put" s__law_put ["_law_rays", "_law_ray"] := ⟨_, _, fun_mk l12 e12 k12, PySem.W.mg_of X G a12, (fun_mk (st := s__law_put) l12 e12 k12).binds (ps := ["_law_rays", "_law_ray"]) fun _ _ _ _ _ _ us hl => match us, hl with | [_, _], _ => rfl⟩
  have c__law_put : Cal l.prog w K mg base 2 "_law_put" ["_law_rays", "_law_ray"] [] sp__law_put := ok__law_put d__law_put c__law_cross z_range z_len
  have d__law_straight : Dfn K mg "_law_straight" s__law_straight ["_law_pair"] := ⟨_, _, fun_mk l13 e13 k13, PySem.W.mg_of X G a13, (fun_mk (st := s__law_straight) l13 e13 k13).binds (ps := ["_law_pair"]) fun _ _ _ _ _ _ us hl => match us, hl with | [_], _ => rfl⟩
  have c__law_straight : Cal l.prog w K mg base 1 "_law_straight" ["_law_pair"] [] sp__law_straight := ok__law_straight d__law_straight z_abs
  have d__law_any : Dfn K mg "_law_any" s__law_any ["_law_bag_here"] := ⟨_, _, fun_mk l14 e14 k14, PySem.W.mg_of X G a14, (fun_mk (st := s__law_any) l14 e14 k14).binds (ps := ["_law_bag_here"]) fun _ _ _ _ _ _ us hl => match us, hl with | [_], _ => rfl⟩
  have c__law_any : Cal l.prog w K mg base 5 "_law_any" ["_law_bag_here"] [0] sp__law_any := ok__law_any d__law_any c__law_smooth c__law_digit c__law_put c__law_straight c__law_cross z_range z_len
  have d__law_whole : Dfn K mg "_law_whole" s__law_whole ["_law_thing"] := ⟨_, _, fun_mk l15 e15 k15, PySem.W.mg_of X G a15, (fun_mk (st := s__law_whole) l15 e15 k15).binds (ps := ["_law_thing"]) fun _ _ _ _ _ _ us hl => match us, hl with | [_], _ => rfl⟩
  have c__law_whole : Cal l.prog w K mg base 1 "_law_whole" ["_law_thing"] [] sp__law_whole := ok__law_whole d__law_whole z_isinstance z_int z_bool
  have ch__law_whole : CalP l.prog w K mg base 1 "_law_whole" ["_law_thing"] [] (fun _ _ _ => sp__law_whole) := okh__law_whole d__law_whole z_isinstance z_int z_bool
  have d__law_is_ray : Dfn K mg "_law_is_ray" s__law_is_ray ["_law_thing"] := ⟨_, _, fun_mk l16 e16 k16, PySem.W.mg_of X G a16, (fun_mk (st := s__law_is_ray) l16 e16 k16).binds (ps := ["_law_thing"]) fun _ _ _ _ _ _ us hl => match us, hl with | [_], _ => rfl⟩
  have c__law_is_ray : Cal l.prog w K mg base 2 "_law_is_ray" ["_law_thing"] [] sp__law_is_ray := ok__law_is_ray d__law_is_ray c__law_whole c__law_straight z_isinstance z_tuple z_len
  have d__law_has_east : Dfn K mg "_law_has_east" s__law_has_east ["_law_one", "_law_other"] := ⟨_, _, fun_mk l17 e17 k17, PySem.W.mg_of X G a17, (fun_mk (st := s__law_has_east) l17 e17 k17).binds (ps := ["_law_one", "_law_other"]) fun _ _ _ _ _ _ us hl => match us, hl with | [_, _], _ => rfl⟩
  have c__law_has_east : Cal l.prog w K mg base 1 "_law_has_east" ["_law_one", "_law_other"] [] sp__law_has_east := ok__law_has_east d__law_has_east
  have d__law_fault : Dfn K mg "_law_fault" s__law_fault ["_law_thing"] := ⟨_, _, fun_mk l18 e18 k18, PySem.W.mg_of X G a18, (fun_mk (st := s__law_fault) l18 e18 k18).binds (ps := ["_law_thing"]) fun _ _ _ _ _ _ us hl => match us, hl with | [_], _ => rfl⟩
  have c__law_fault : Cal l.prog w K mg base 3 "_law_fault" ["_law_thing"] [] sp__law_fault := ok__law_fault d__law_fault c__law_is_ray c__law_cross c__law_has_east z_enumerate z_range z_len z_isinstance z_list z_int
  have d_wedges : Dfn K mg "wedges" s_wedges ["rays"] := ⟨_, _, fun_mk l19 e19 k19, PySem.W.mg_of X G a19, (fun_mk (st := s_wedges) l19 e19 k19).binds (ps := ["rays"]) fun _ _ _ _ _ _ us hl => match us, hl with | [_], _ => rfl⟩
  have c_wedges : Cal l.prog w K mg base 1 "wedges" ["rays"] [] sp_wedges := ok_wedges d_wedges z_list z_zip
  have d_is_whole : Dfn K mg "is_whole" s_is_whole ["thing"] := ⟨_, _, fun_mk l20 e20 k20, PySem.W.mg_of X G a20, (fun_mk (st := s_is_whole) l20 e20 k20).binds (ps := ["thing"]) fun _ _ _ _ _ _ us hl => match us, hl with | [_], _ => rfl⟩
  have c_is_whole : Cal l.prog w K mg base 1 "is_whole" ["thing"] [] sp_is_whole := ok_is_whole d_is_whole z_isinstance z_int z_bool
  have d_is_pair : Dfn K mg "is_pair" s_is_pair ["thing"] := ⟨_, _, fun_mk l21 e21 k21, PySem.W.mg_of X G a21, (fun_mk (st := s_is_pair) l21 e21 k21).binds (ps := ["thing"]) fun _ _ _ _ _ _ us hl => match us, hl with | [_], _ => rfl⟩
  have c_is_pair : Cal l.prog w K mg base 2 "is_pair" ["thing"] [] sp_is_pair := ok_is_pair d_is_pair c_is_whole z_isinstance z_tuple z_len
  have d_divisor : Dfn K mg "divisor" s_divisor ["one", "other"] := ⟨_, _, fun_mk l22 e22 k22, PySem.W.mg_of X G a22, (fun_mk (st := s_divisor) l22 e22 k22).binds (ps := ["one", "other"]) fun _ _ _ _ _ _ us hl => match us, hl with | [_, _], _ => rfl⟩
  have c_divisor : Cal l.prog w K mg base 1 "divisor" ["one", "other"] [] sp_divisor := ok_divisor d_divisor z_abs
  have d_common : Dfn K mg "common" s_common ["pair"] := ⟨_, _, fun_mk l23 e23 k23, PySem.W.mg_of X G a23, (fun_mk (st := s_common) l23 e23 k23).binds (ps := ["pair"]) fun _ _ _ _ _ _ us hl => match us, hl with | [_], _ => rfl⟩
  have c_common : Cal l.prog w K mg base 2 "common" ["pair"] [] sp_common := ok_common d_common c_divisor
  have d_is_ray : Dfn K mg "is_ray" s_is_ray ["thing"] := ⟨_, _, fun_mk l24 e24 k24, PySem.W.mg_of X G a24, (fun_mk (st := s_is_ray) l24 e24 k24).binds (ps := ["thing"]) fun _ _ _ _ _ _ us hl => match us, hl with | [_], _ => rfl⟩
  have c_is_ray : Cal l.prog w K mg base 3 "is_ray" ["thing"] [] sp_is_ray := ok_is_ray d_is_ray c_is_pair c_common
  have d_crossed : Dfn K mg "crossed" s_crossed ["one", "other"] := ⟨_, _, fun_mk l25 e25 k25, PySem.W.mg_of X G a25, (fun_mk (st := s_crossed) l25 e25 k25).binds (ps := ["one", "other"]) fun _ _ _ _ _ _ us hl => match us, hl with | [_, _], _ => rfl⟩
  have c_crossed : Cal l.prog w K mg base 1 "crossed" ["one", "other"] [] sp_crossed := ok_crossed d_crossed
  have d_has_east : Dfn K mg "has_east" s_has_east ["one", "other"] := ⟨_, _, fun_mk l26 e26 k26, PySem.W.mg_of X G a26, (fun_mk (st := s_has_east) l26 e26 k26).binds (ps := ["one", "other"]) fun _ _ _ _ _ _ us hl => match us, hl with | [_, _], _ => rfl⟩
  have c_has_east : Cal l.prog w K mg base 2 "has_east" ["one", "other"] [] sp_has_east := ok_has_east d_has_east c_crossed cst_EAST
  have d_look_round : Dfn K mg "look_round" s_look_round ["thing"] := ⟨_, _, fun_mk l27 e27 k27, PySem.W.mg_of X G a27, (fun_mk (st := s_look_round) l27 e27 k27).binds (ps := ["thing"]) fun _ _ _ _ _ _ us hl => match us, hl with | [_], _ => rfl⟩
  have c_look_round : Cal l.prog w K mg base 4 "look_round" ["thing"] [] sp_look_round := ok_look_round d_look_round c_is_ray c_wedges c_crossed c_has_east z_enumerate z_len z_isinstance z_list cst_FEWEST xi_NoRound
  have d__law_classes : Dfn K mg "_law_classes" s__law_classes ["_law_e"] := ⟨_, _, fun_mk l28 e28 k28, PySem.W.mg_of X G a28, (fun_mk (st := s__law_classes) l28 e28 k28).binds (ps := ["_law_e"]) fun _ _ _ _ _ _ us hl => match us, hl with | [_], _ => rfl⟩
  have ch__law_classes : CalP l.prog w K mg base 1 "_law_classes" ["_law_e"] [0] sp__law_classes := okh__law_classes d__law_classes z_isinstance z_range if_NoRatio if_NoTurning if_NoRound if_NotSmooth if_NoWedge if_NoRow if_NoPlace if_NoMinus if_NoFour if_NoHeight if_NoBend if_NoBody if_NoOne if_NoText if_Unknown ib_ValueError
  have d__law_looked : Dfn K mg "_law_looked" s__law_looked ["_law_thing"] := ⟨_, _, fun_mk l29 e29 k29, PySem.W.mg_of X G a29, (fun_mk (st := s__law_looked) l29 e29 k29).binds (ps := ["_law_thing"]) fun _ _ _ _ _ _ us hl => match us, hl with | [_], _ => rfl⟩
  have c__law_looked : Cal l.prog w K mg base 5 "_law_looked" ["_law_thing"] [] sp__law_looked := ok__law_looked d__law_looked c_look_round ch__law_classes ch__law_whole z_isinstance z_str fl_NoRound_where fl_NoRound_at cat_RayError
  have d__law_again : Dfn K mg "_law_again" s__law_again ["_law_bag_here", "_law_thing"] := ⟨_, _, fun_mk l30 e30 k30, PySem.W.mg_of X G a30, (fun_mk (st := s__law_again) l30 e30 k30).binds (ps := ["_law_bag_here", "_law_thing"]) fun _ _ _ _ _ _ us hl => match us, hl with | [_, _], _ => rfl⟩
  have c__law_again : Cal l.prog w K mg base 2 "_law_again" ["_law_bag_here", "_law_thing"] [0] sp__law_again := ok__law_again d__law_again c__law_digit z_len z_isinstance z_list
  have d_law : Dfn K mg "law" s_law ["_law_script"] := ⟨_, _, fun_mk l31 e31 k31, PySem.W.mg_of X G a31, (fun_mk (st := s_law) l31 e31 k31).binds (ps := ["_law_script"]) fun _ _ _ _ _ _ us hl => match us, hl with | [_], _ => rfl⟩
  have c_law : CalG l.prog w K mg base 6 "law" ["_law_script"] [] spLaw := ok_law d_law c__law_bag c__law_smooth c__law_any c__law_digit c__law_fault c__law_looked c__law_bent c__law_again z_range z_max z_min z_repr z_len z_list
  exact lawG_of c_law hfa (fun_mk (st := s_law) l31 e31 k31)

end
end RR
open PySem PySem.W PyProof.Rows
set_option maxHeartbeats 0 in
theorem PySem.Challenge.cw_rayround_k06_rounds_of_any_thing_holds : PySem.Challenge.rw_rayround_k06_rounds_of_any_thing.Holds := by
  w_on; o_law; k_head; (case hw => w_witness2)
  k_fill
  refine RR.walk_ofG (l := PySem.Challenge.rw_rayround_k06_rounds_of_any_thing) (n := 63) (k := 6) (x := "_law_script") rfl (by decide) rfl ⟨rfl, by decide, by decide⟩ (fun w h Y => PySem.W.kIn_of Y) ?F
  case F =>
    intro w mg fa h KX G hmg
    refine' RR.all_mk KX G hmg ?a0 ?l0 ?e0 ?k0 ?a1 ?l1 ?e1 ?k1 ?a2 ?l2 ?e2 ?k2 ?a3 ?l3 ?e3 ?k3 ?a4 ?l4 ?e4 ?k4 ?a5 ?l5 ?e5 ?k5 ?a6 ?l6 ?e6 ?k6 ?a7 ?l7 ?e7 ?k7 ?a8 ?l8 ?e8 ?k8 ?a9 ?l9 ?e9 ?k9 ?a10 ?l10 ?e10 ?k10 ?a11 ?l11 ?e11 ?k11 ?a12 ?l12 ?e12 ?k12 ?a13 ?l13 ?e13 ?k13 ?a14 ?l14 ?e14 ?k14 ?a15 ?l15 ?e15 ?k15 ?a16 ?l16 ?e16 ?k16 ?a17 ?l17 ?e17 ?k17 ?a18 ?l18 ?e18 ?k18 ?a19 ?l19 ?e19 ?k19 ?a20 ?l20 ?e20 ?k20 ?a21 ?l21 ?e21 ?k21 ?a22 ?l22 ?e22 ?k22 ?a23 ?l23 ?e23 ?k23 ?a24 ?l24 ?e24 ?k24 ?a25 ?l25 ?e25 ?k25 ?a26 ?l26 ?e26 ?k26 ?a27 ?l27 ?e27 ?k27 ?a28 ?l28 ?e28 ?k28 ?a29 ?l29 ?e29 ?k29 ?a30 ?l30 ?e30 ?k30 ?a31 ?l31 ?e31 ?k31 ?y_len ?y_abs ?y_int ?y_tuple ?y_all ?y_list ?y_range ?y_isinstance ?y_bool ?y_enumerate ?y_zip ?y_str ?y_max ?y_min ?y_repr ?xn_NoRound ?xn_NoRatio ?xn_NoTurning ?xn_NotSmooth ?xn_NoWedge ?xn_NoRow ?xn_NoPlace ?xn_NoMinus ?xn_NoFour ?xn_NoHeight ?xn_NoBend ?xn_NoBody ?xn_NoOne ?xn_NoText ?xn_Unknown ?xn_RayError ?xg6 ?xg7 ?q1_NoRound ?q2_NoRound ?q3_NoRound ?q4_NoRound ?q5_NoRound ?q8_NoRound ?tt_NoRatio ?q4_NoRatio ?tt_NoTurning ?q4_NoTurning ?tt_NoRound ?tt_NotSmooth ?q4_NotSmooth ?tt_NoWedge ?q4_NoWedge ?tt_NoRow ?q4_NoRow ?tt_NoPlace ?q4_NoPlace ?tt_NoMinus ?q4_NoMinus ?tt_NoFour ?q4_NoFour ?tt_NoHeight ?q4_NoHeight ?tt_NoBend ?q4_NoBend ?tt_NoBody ?q4_NoBody ?tt_NoOne ?q4_NoOne ?tt_NoText ?q4_NoText ?tt_Unknown ?q4_Unknown ?tt_RayError ?q4_RayError ?q3_RayError ?sb_NoRound_NoRatio ?sb_NoRound_NoTurning ?sb_NoRound_NoRound ?sb_NoRound_NotSmooth ?sb_NoRound_NoWedge ?sb_NoRound_NoRow ?sb_NoRound_NoPlace ?sb_NoRound_NoMinus ?sb_NoRound_NoFour ?sb_NoRound_NoHeight ?sb_NoRound_NoBend ?sb_NoRound_NoBody ?sb_NoRound_NoOne ?sb_NoRound_NoText ?sb_NoRound_Unknown ?sb_NoRound_ValueError ?sb_NoRound_RayError ?y_ValueError ?ol_NoRound ?o_ve_NoRound ?i1_NoRound ?i2_NoRound ?i3_NoRound ?i4_NoRound ?i5_NoRound ?i6_NoRound ?il_NoRound ?ie_NoRound ?ik_NoRound ?i7_NoRound ?i8_NoRound ?i9_NoRound ?if_NoRound_where ?if_NoRound_at ?n_EAST ?m_EAST ?o_EAST ?p_EAST ?q_EAST ?n_FEWEST ?q_FEWEST
    (case a0 => k_is)
    (case l0 => k_is)
    (case e0 => k_is)
    (case k0 => k_is)
    (case a1 => k_is)
    (case l1 => k_is)
    (case e1 => k_is)
    (case k1 => k_is)
    (case a2 => k_is)
    (case l2 => k_is)
    (case e2 => k_is)
    (case k2 => k_is)
    (case a3 => k_is)
    (case l3 => k_is)
    (case e3 => k_is)
    (case k3 => k_is)
    (case a4 => k_is)
    (case l4 => k_is)
    (case e4 => k_is)
    (case k4 => k_is)
    (case a5 => k_is)
    (case l5 => k_is)
    (case e5 => k_is)
    (case k5 => k_is)
    (case a6 => k_is)
    (case l6 => k_is)
    (case e6 => k_is)
    (case k6 => k_is)
    (case a7 => k_is)
    (case l7 => k_is)
    (case e7 => k_is)
    (case k7 => k_is)
    (case a8 => k_is)
    (case l8 => k_is)
    (case e8 => k_is)
    (case k8 => k_is)
    (case a9 => k_is)
    (case l9 => k_is)
    (case e9 => k_is)
    (case k9 => k_is)
    (case a10 => k_is)
    (case l10 => k_is)
    (case e10 => k_is)
    (case k10 => k_is)
    (case a11 => k_is)
    (case l11 => k_is)
    (case e11 => k_is)
    (case k11 => k_is)
    (case a12 => k_is)
    (case l12 => k_is)
    (case e12 => k_is)
    (case k12 => k_is)
    (case a13 => k_is)
    (case l13 => k_is)
    (case e13 => k_is)
    (case k13 => k_is)
    (case a14 => k_is)
    (case l14 => k_is)
    (case e14 => k_is)
    (case k14 => k_is)
    (case a15 => k_is)
    (case l15 => k_is)
    (case e15 => k_is)
    (case k15 => k_is)
    (case a16 => k_is)
    (case l16 => k_is)
    (case e16 => k_is)
    (case k16 => k_is)
    (case a17 => k_is)
    (case l17 => k_is)
    (case e17 => k_is)
    (case k17 => k_is)
    (case a18 => k_is)
    (case l18 => k_is)
    (case e18 => k_is)
    (case k18 => k_is)
    (case a19 => k_is)
    (case l19 => k_is)
    (case e19 => k_is)
    (case k19 => k_is)
    (case a20 => k_is)
    (case l20 => k_is)
    (case e20 => k_is)
    (case k20 => k_is)
    (case a21 => k_is)
    (case l21 => k_is)
    (case e21 => k_is)
    (case k21 => k_is)
    (case a22 => k_is)
    (case l22 => k_is)
    (case e22 => k_is)
    (case k22 => k_is)
    (case a23 => k_is)
    (case l23 => k_is)
    (case e23 => k_is)
    (case k23 => k_is)
    (case a24 => k_is)
    (case l24 => k_is)
    (case e24 => k_is)
    (case k24 => k_is)
    (case a25 => k_is)
    (case l25 => k_is)
    (case e25 => k_is)
    (case k25 => k_is)
    (case a26 => k_is)
    (case l26 => k_is)
    (case e26 => k_is)
    (case k26 => k_is)
    (case a27 => k_is)
    (case l27 => k_is)
    (case e27 => k_is)
    (case k27 => k_is)
    (case a28 => k_is)
    (case l28 => k_is)
    (case e28 => k_is)
    (case k28 => k_is)
    (case a29 => k_is)
    (case l29 => k_is)
    (case e29 => k_is)
    (case k29 => k_is)
    (case a30 => k_is)
    (case l30 => k_is)
    (case e30 => k_is)
    (case k30 => k_is)
    (case a31 => k_is)
    (case l31 => k_is)
    (case e31 => k_is)
    (case k31 => k_is)
    (case y_len => k_is)
    (case y_abs => k_is)
    (case y_int => k_is)
    (case y_tuple => k_is)
    (case y_all => k_is)
    (case y_list => k_is)
    (case y_range => k_is)
    (case y_isinstance => k_is)
    (case y_bool => k_is)
    (case y_enumerate => k_is)
    (case y_zip => k_is)
    (case y_str => k_is)
    (case y_max => k_is)
    (case y_min => k_is)
    (case y_repr => k_is)
    (case xn_NoRound => k_is)
    (case xn_NoRatio => k_is)
    (case xn_NoTurning => k_is)
    (case xn_NotSmooth => k_is)
    (case xn_NoWedge => k_is)
    (case xn_NoRow => k_is)
    (case xn_NoPlace => k_is)
    (case xn_NoMinus => k_is)
    (case xn_NoFour => k_is)
    (case xn_NoHeight => k_is)
    (case xn_NoBend => k_is)
    (case xn_NoBody => k_is)
    (case xn_NoOne => k_is)
    (case xn_NoText => k_is)
    (case xn_Unknown => k_is)
    (case xn_RayError => k_is)
    (case xg6 => k_is)
    (case xg7 => k_is)
    (case q1_NoRound => k_is)
    (case q2_NoRound => k_is)
    (case q3_NoRound => k_is)
    (case q4_NoRound => k_is)
    (case q5_NoRound => k_is)
    (case q8_NoRound => k_is)
    (case tt_NoRatio => k_is)
    (case q4_NoRatio => k_is)
    (case tt_NoTurning => k_is)
    (case q4_NoTurning => k_is)
    (case tt_NoRound => k_is)
    (case tt_NotSmooth => k_is)
    (case q4_NotSmooth => k_is)
    (case tt_NoWedge => k_is)
    (case q4_NoWedge => k_is)
    (case tt_NoRow => k_is)
    (case q4_NoRow => k_is)
    (case tt_NoPlace => k_is)
    (case q4_NoPlace => k_is)
    (case tt_NoMinus => k_is)
    (case q4_NoMinus => k_is)
    (case tt_NoFour => k_is)
    (case q4_NoFour => k_is)
    (case tt_NoHeight => k_is)
    (case q4_NoHeight => k_is)
    (case tt_NoBend => k_is)
    (case q4_NoBend => k_is)
    (case tt_NoBody => k_is)
    (case q4_NoBody => k_is)
    (case tt_NoOne => k_is)
    (case q4_NoOne => k_is)
    (case tt_NoText => k_is)
    (case q4_NoText => k_is)
    (case tt_Unknown => k_is)
    (case q4_Unknown => k_is)
    (case tt_RayError => k_is)
    (case q4_RayError => k_is)
    (case q3_RayError => k_is)
    (case sb_NoRound_NoRatio => k_is)
    (case sb_NoRound_NoTurning => k_is)
    (case sb_NoRound_NoRound => k_is)
    (case sb_NoRound_NotSmooth => k_is)
    (case sb_NoRound_NoWedge => k_is)
    (case sb_NoRound_NoRow => k_is)
    (case sb_NoRound_NoPlace => k_is)
    (case sb_NoRound_NoMinus => k_is)
    (case sb_NoRound_NoFour => k_is)
    (case sb_NoRound_NoHeight => k_is)
    (case sb_NoRound_NoBend => k_is)
    (case sb_NoRound_NoBody => k_is)
    (case sb_NoRound_NoOne => k_is)
    (case sb_NoRound_NoText => k_is)
    (case sb_NoRound_Unknown => k_is)
    (case sb_NoRound_ValueError => k_is)
    (case sb_NoRound_RayError => k_is)
    (case y_ValueError => k_is)
    (case ol_NoRound => k_is)
    (case o_ve_NoRound => rfl)
    (case i1_NoRound => k_is)
    (case i2_NoRound => k_is)
    (case i3_NoRound => k_is)
    (case i4_NoRound => k_is)
    (case i5_NoRound => k_is)
    (case i6_NoRound => k_is)
    (case il_NoRound => k_is)
    (case ie_NoRound => k_is)
    (case ik_NoRound => k_is)
    (case i7_NoRound => k_is)
    (case i8_NoRound => k_is)
    (case i9_NoRound => k_is)
    (case if_NoRound_where => k_is)
    (case if_NoRound_at => k_is)
    (case n_EAST => k_is)
    (case m_EAST => k_is)
    (case o_EAST => rfl)
    (case p_EAST => rfl)
    (case q_EAST => rfl)
    (case n_FEWEST => k_is)
    (case q_FEWEST => rfl)
