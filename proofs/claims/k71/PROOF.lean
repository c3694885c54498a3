import PyProof.Rows.All
import Wide.All
import OpenK.AllK
import Wide.FinOn
import HandS.ForExc
import HandS.ForMost
import HandS.Strs
import HandS.IsInst
import HandS.SortInts
import HandS.Style
import HandS.TupAny
import HandS.TupMul
import HandS.Text
import HandS.Deep
import HandS.Zip
import HandS.Wide
import HandS.Ends
import HandS.More
import HandS.Defaults
import HandS.Head0
import HandS.Head1
import HandS.Head2
import HandS.HeadEnd
import HandS.HeadHook1
import HandS.HeadHook2
import HandS.Codes
import HandS.EndBits
import PySem.Challenge.RW_wishdues_k71_houses_written_and_read
set_option Elab.async false
set_option linter.all false
set_option maxRecDepth 100000
namespace PyI
open PySem PySem.Spec PyProof.Rows L2

/-! ## what a slot holds, what an expression comes to -/
inductive Sl where
  | un
  | val (d : PyData)
  | lst (xs : List PyData)
  | tup (xs : List Sl)
abbrev Env := List Sl
inductive Res (α : Type) where
  | ok (a : α) (e : Env)
  | ex (c : Str) (d : PyData) (e : Env)
  | no
def Res.bind {α β : Type} (r : Res α) (k : α → Env → Res β) : Res β := match r with
  | .ok a e => k a e
  | .ex c d e => .ex c d e
  | .no => .no
abbrev F := Env → Res Sl
mutual
def Sl.fz : Sl → Option PyData
  | .un => none
  | .val d => some d
  | .lst xs => some (.list xs)
  | .tup ss => (Sl.fzs ss).map PyData.tuple
def Sl.fzs : List Sl → Option (List PyData)
  | [] => some []
  | s :: ss => match s.fz, Sl.fzs ss with
    | some d, some ds => some (d :: ds)
    | _, _ => none
end
def Sl.pk : Sl → Option PyData
  | .val d => some d
  | .lst xs => some (.list xs)
  | _ => none
def Sl.bit : Sl → Option Bool
  | .val (.bool b) => some b
  | _ => none

/-- an operand: a slot looked at, or an expression -/
inductive Opd where
  | pl (i : Nat)
  | ex (f : F)
def cV (i : Nat) : F := fun Γ => match Γ[i]? with
  | some s => (match s.fz with
    | some d => .ok (.val d) (Γ.set i (.val d))
    | none => .no)
  | none => .no
def cC (d : PyData) : F := fun Γ => .ok (.val d) Γ
def opsF : List Opd → Env → Res (List (Nat ⊕ PyData))
  | [], Γ => .ok [] Γ
  | .pl i :: r, Γ => match Γ[i]? with
    | some s => (match s.pk with
      | some _ => (opsF r Γ).bind fun l Γ' => .ok (.inl i :: l) Γ'
      | none => .no)
    | none => .no
  | .ex f :: r, Γ => (f Γ).bind fun s Γ1 => match s.fz with
    | some d => (opsF r Γ1).bind fun l Γ2 => .ok (.inr d :: l) Γ2
    | none => .no
def rslv (Γ : Env) : List (Nat ⊕ PyData) → Option (List PyData)
  | [] => some []
  | .inr d :: r => (rslv Γ r).map (d :: ·)
  | .inl i :: r => match Γ[i]? with
    | some s => (match s.pk with
      | some d => (rslv Γ r).map (d :: ·)
      | none => none)
    | none => none
def primF (p : List PyData → Option Sl) (os : List Opd) : F := fun Γ => (opsF os Γ).bind fun l Γ' => match rslv Γ' l with
  | some ds => (match p ds with
    | some s => .ok s Γ'
    | none => .no)
  | none => .no
/-- a def's outcome: what it hands back, what its first parameter's slot holds then -/
inductive CRes where
  | ok (s b : Sl)
  | ex (c : Str) (d : PyData) (b : Sl)
  | no
abbrev Fn := List Sl → CRes
def callF (f : Fn) (os : List F) : F := fun Γ => (opsF (os.map .ex) Γ).bind fun l Γ' => match rslv Γ' l with
  | some ds => (match f (ds.map .val) with
    | .ok s _ => .ok s Γ'
    | .ex c d _ => .ex c d Γ'
    | .no => .no)
  | none => .no
def Sl.owned : Sl → Bool
  | .lst _ => true
  | _ => false
def callIO (f : Fn) (i : Nat) (os : List F) : F := fun Γ => match Γ[i]? with
  | none => .no
  | some sI => if sI.owned = true then ((opsF (os.map .ex) Γ).bind fun l Γ' => match rslv Γ' l, Γ'[i]? with
  | some ds, some s0 => if s0.owned = true then (match f (s0 :: ds.map .val) with
    | .ok s b => .ok s (Γ'.set i b)
    | .ex c d b => .ex c d (Γ'.set i b)
    | .no => .no) else .no
  | _, _ => .no) else .no
def tstF (r : Res Sl) (k : Bool → Env → Res Sl) : Res Sl := r.bind fun s Γ1 => match s.bit with
  | some b => k b Γ1
  | none => .no
def vB (b : Bool) : Sl := .val (.bool b)
def andF (a b : F) : F := fun Γ => tstF (a Γ) fun c Γ1 => match c with
  | true => b Γ1
  | false => .ok (vB false) Γ1
def orF (a b : F) : F := fun Γ => tstF (a Γ) fun c Γ1 => match c with
  | true => .ok (vB true) Γ1
  | false => b Γ1
def notF (a : F) : F := fun Γ => tstF (a Γ) fun c Γ1 => .ok (vB !c) Γ1
def iteF (t a b : F) : F := fun Γ => tstF (t Γ) fun c Γ1 => match c with
  | true => a Γ1
  | false => b Γ1
/-! ## relations to the layer's heap -/
structure Good (G H : Hp) (as : List Addr) : Prop where
  sub : ∀ a o, G a = some o → H a = some o
  own : ∀ a ∈ as, G a = none ∧ H a ≠ none
  nd : as.Nodup
structure Stp (as : List Addr) (G H G' H' : Hp) (as' : List Addr) : Prop where
  kH : ∀ a o, H a = some o → a ∉ as → H' a = some o
  kG : ∀ a o, G a = some o → G' a = some o
  nG : ∀ a, H a ≠ none → a ∉ as → G a = none → G' a = none
  own : ∀ a ∈ as', a ∈ as ∨ H a = none
  there : ∀ a, H a ≠ none → H' a ≠ none
theorem Stp.refl (as : List Addr) (G H : Hp) : Stp as G H G H as := ⟨fun _ _ h _ => h, fun _ _ h => h, fun _ _ _ h => h, fun _ h => .inl h, fun _ h => h⟩
theorem Stp.trans {as as1 as2 : List Addr} {G H G1 H1 G2 H2 : Hp} (p : Stp as G H G1 H1 as1) (q : Stp as1 G1 H1 G2 H2 as2) : Stp as G H G2 H2 as2 := by
  have nin : ∀ a, H a ≠ none → a ∉ as → a ∉ as1 := fun a h n z => by
    rcases p.own a z with z | z
    · exact n z
    · exact h z
  refine ⟨fun a o h n => ?_, fun a o h => q.kG a o (p.kG a o h), fun a h n g => ?_, fun a h => ?_, fun a h => q.there a (p.there a h)⟩
  · exact q.kH a o (p.kH a o h n) (nin a (by rw [h]; simp) n)
  · exact q.nG a (p.there a h) (nin a h n) (p.nG a h n g)
  · rcases q.own a h with z | z
    · exact p.own a z
    · by_cases hh : H a = none
      · exact .inr hh
      · exact absurd z (p.there a hh)
theorem Stp.less {as as1 as2 : List Addr} {G H G1 H1 : Hp} (p : Stp as G H G1 H1 as1) (h : ∀ a ∈ as2, a ∈ as1) : Stp as G H G1 H1 as2 := ⟨p.kH, p.kG, p.nG, fun a z => p.own a (h a z), p.there⟩
theorem Stp.more {as as1 bs : List Addr} {G H G1 H1 : Hp} (p : Stp as G H G1 H1 as1) (h : ∀ a ∈ as, a ∈ bs) : Stp bs G H G1 H1 as1 :=
  ⟨fun a o q n => p.kH a o q fun z => n (h a z), p.kG, fun a q n => p.nG a q fun z => n (h a z), fun a z => (p.own a z).imp (h a) id, p.there⟩

section
variable {K : PySem.W.Frag}
theorem seqT_mono {H H' : Hp} {a : Addr} {xs : List V} (e : ∀ a o, H a = some o → H' a = some o) (h : SqT K H a xs) : SqT K H' a xs := by
  rcases h with (h | ⟨o, h⟩) | h
  · exact .inl (.inl (e _ _ h))
  · exact .inl (.inr ⟨o, e _ _ h⟩)
  · exact .inr h
theorem seqL_mono {H H' : Hp} {a : Addr} {xs : List V} (e : ∀ a o, H a = some o → H' a = some o) (h : SqL K H a xs) : SqL K H' a xs := Same.seq e h
mutual
theorem Dp_mono {G G' : Hp} (e : ∀ a o, G a = some o → G' a = some o) : ∀ {v : V} {d : PyData}, Dp K G v d → Dp K G' v d
  | _, _, .non => .non
  | _, _, .bl b => .bl b
  | _, _, .int i => .int i
  | _, _, .str x => .str x
  | _, _, .lst h r => .lst (seqL_mono e h) (DpAll_mono e r)
  | _, _, .tup h r => .tup (seqT_mono e h) (DpAll_mono e r)
theorem DpAll_mono {G G' : Hp} (e : ∀ a o, G a = some o → G' a = some o) : ∀ {v : List V} {d : List PyData}, DpAll K G v d → DpAll K G' v d
  | _, _, .nil => .nil
  | _, _, .cons h r => .cons (Dp_mono e h) (DpAll_mono e r)
end
end

mutual
inductive RepS (K : PySem.W.Frag) (G H : Hp) : V → Sl → List Addr → Prop
  | val {v : V} {d : PyData} : Dp K G v d → RepS K G H v (.val d) []
  | lst {a : Addr} {vs : List V} {ds : List PyData} : H a = some (.lst vs) → DpAll K G vs ds → RepS K G H (.ref a) (.lst ds) [a]
  | tup {a : Addr} {vs : List V} {ss : List Sl} {as : List Addr} : H a = some (.tup vs) → RepL K G H vs ss as → RepS K G H (.ref a) (.tup ss) (a :: as)
inductive RepL (K : PySem.W.Frag) (G H : Hp) : List V → List Sl → List Addr → Prop
  | nil : RepL K G H [] [] []
  | cons {v : V} {s : Sl} {as : List Addr} {vs : List V} {ss : List Sl} {bs : List Addr} : RepS K G H v s as → RepL K G H vs ss bs → RepL K G H (v :: vs) (s :: ss) (as ++ bs)
end
inductive RepE (K : PySem.W.Frag) (G H : Hp) : L2.St → Env → List Addr → Prop
  | nil : RepE K G H [] [] []
  | un {x : Option V} {σ : L2.St} {Γ : Env} {as : List Addr} : RepE K G H σ Γ as → RepE K G H (x :: σ) (.un :: Γ) as
  | cons {v : V} {s : Sl} {a : List Addr} {σ : L2.St} {Γ : Env} {as : List Addr} : RepS K G H v s a → RepE K G H σ Γ as → RepE K G H (some v :: σ) (s :: Γ) (a ++ as)

section
variable {K : PySem.W.Frag} {G H G' H' : Hp}
/-- what carries representations of things owned at some places -/
structure Car (G H G' H' : Hp) (as : List Addr) : Prop where
  kG : ∀ a o, G a = some o → G' a = some o
  kH : ∀ a ∈ as, ∀ o, H a = some o → H' a = some o
theorem Car.less {as bs : List Addr} (c : Car G H G' H' as) (h : ∀ a ∈ bs, a ∈ as) : Car G H G' H' bs := ⟨c.kG, fun a z => c.kH a (h a z)⟩
mutual
theorem RepS.car : ∀ {v : V} {s : Sl} {as : List Addr}, RepS K G H v s as → Car G H G' H' as → RepS K G' H' v s as
  | _, _, _, .val h, c => .val (Dp_mono c.kG h)
  | _, _, _, .lst h r, c => .lst (c.kH _ (by simp) _ h) (DpAll_mono c.kG r)
  | _, _, _, .tup h r, c => .tup (c.kH _ (by simp) _ h) (RepL.car r (c.less (fun _ z => List.mem_cons_of_mem _ z)))
theorem RepL.car : ∀ {v : List V} {s : List Sl} {as : List Addr}, RepL K G H v s as → Car G H G' H' as → RepL K G' H' v s as
  | _, _, _, .nil, _ => .nil
  | _, _, _, .cons h r, c => .cons (RepS.car h (c.less (by simp +contextual))) (RepL.car r (c.less (by simp +contextual)))
end
theorem RepE.car : ∀ {σ : L2.St} {Γ : Env} {as : List Addr}, RepE K G H σ Γ as → Car G H G' H' as → RepE K G' H' σ Γ as
  | _, _, _, .nil, _ => .nil
  | _, _, _, .un h, c => .un (h.car c)
  | _, _, _, .cons h r, c => .cons (h.car (c.less (by simp +contextual))) (r.car (c.less (by simp +contextual)))
theorem Stp.car {as bs as' : List Addr} (p : Stp as G H G' H' as') (h : ∀ a ∈ bs, a ∉ as) : Car G H G' H' bs := ⟨p.kG, fun a z o e => p.kH a o e (h a z)⟩
/-- frozen: what is owned at av joins the part that stays -/
def frz (G H : Hp) (av : List Addr) : Hp := fun a => if a ∈ av then H a else G a
theorem frz_in {av : List Addr} {a : Addr} (h : a ∈ av) : frz G H av a = H a := if_pos h
theorem frz_out {av : List Addr} {a : Addr} (h : a ∉ av) : frz G H av a = G a := if_neg h
theorem frz_kG {as av : List Addr} (g : Good G H as) (h : ∀ a ∈ av, a ∈ as) : ∀ a o, G a = some o → frz G H av a = some o := fun a o e => by
  by_cases z : a ∈ av
  · rw [(g.own a (h a z)).1] at e; cases e
  · rw [frz_out z]; exact e
mutual
theorem RepS.frz : ∀ {v : V} {s : Sl} {as : List Addr} {d : PyData} {av : List Addr}, RepS K G H v s as → s.fz = some d → (∀ a ∈ as, a ∈ av) → (∀ a o, G a = some o → frz G H av a = some o) → Dp K (frz G H av) v d
  | _, _, _, d, av, .val h, e, _, k => by cases e; exact Dp_mono k h
  | _, _, _, d, av, .lst h r, e, i, k => by
    cases e
    exact .lst (.inl (.inl (by rw [frz_in (i _ (by simp))]; exact h))) (DpAll_mono k r)
  | _, _, _, d, av, .tup (ss := ss) h r, e, i, k => by
    unfold Sl.fz at e
    cases q : Sl.fzs ss with
    | none => rw [q] at e; cases e
    | some ds =>
      rw [q] at e
      cases e
      exact .tup (.inl (.inl (by rw [frz_in (i _ (by simp))]; exact h))) (RepL.frz r q (fun a z => i a (by simp [z])) k)
theorem RepL.frz : ∀ {v : List V} {s : List Sl} {as : List Addr} {d : List PyData} {av : List Addr}, RepL K G H v s as → Sl.fzs s = some d → (∀ a ∈ as, a ∈ av) → (∀ a o, G a = some o → frz G H av a = some o) → DpAll K (frz G H av) v d
  | _, _, _, d, av, .nil, e, _, _ => by cases e; exact .nil
  | _, _, _, d, av, .cons (s := s) (ss := ss) h r, e, i, k => by
    unfold Sl.fzs at e
    cases q : s.fz with
    | none => rw [q] at e; cases e
    | some d1 =>
      cases q2 : Sl.fzs ss with
      | none => rw [q, q2] at e; cases e
      | some ds =>
        rw [q, q2] at e
        cases e
        exact .cons (RepS.frz h q (fun a z => i a (by simp [z])) k) (RepL.frz r q2 (fun a z => i a (by simp [z])) k)
end
theorem Good.frz {av as : List Addr} (g : Good G H (av ++ as)) : Good (frz G H av) H as where
  sub := fun a o e => by
    by_cases z : a ∈ av
    · rw [frz_in z] at e; exact e
    · rw [frz_out z] at e; exact g.sub a o e
  own := fun a z => by
    have n : a ∉ av := fun y => (List.nodup_append.mp g.nd).2.2 a y a z rfl
    rw [frz_out n]
    exact g.own a (by simp [z])
  nd := (List.nodup_append.mp g.nd).2.1
theorem Stp.frz {av as bs : List Addr} {G0 H0 : Hp} (p : Stp bs G0 H0 G H (av ++ as)) (g : Good G H (av ++ as)) : Stp bs G0 H0 (frz G H av) H as where
  kH := p.kH
  kG := fun a o e => frz_kG g (by simp +contextual) a o (p.kG a o e)
  nG := fun a h n e => by
    have z : a ∉ av := fun z => by
      rcases p.own a (by simp [z]) with y | y
      · exact n y
      · exact h y
    rw [frz_out z]
    exact p.nG a h n e
  own := fun a z => p.own a (by simp [z])
  there := p.there
theorem RepE.frz {σ : L2.St} {Γ : Env} {av as : List Addr} (r : RepE K G H σ Γ as) (g : Good G H (av ++ as)) : RepE K (PyI.frz G H av) H σ Γ as := r.car ⟨frz_kG g (by simp +contextual), fun _ _ _ e => e⟩

/-- the i-th slot: what it holds, and the rest -/
theorem RepE.at : ∀ {σ : L2.St} {Γ : Env} {as : List Addr} {i : Nat}, RepE K G H σ Γ as → i < Γ.length → ∃ pre av post, as = pre ++ (av ++ post) ∧ (∀ s, Γ[i]? = some s → s ≠ .un → ∃ v, σ[i]? = some (some v) ∧ RepS K G H v s av) ∧
    ∀ G' H', Car G H G' H' (pre ++ post) → ∀ v' s' av', RepS K G' H' v' s' av' → RepE K G' H' (σ.set i (some v')) (Γ.set i s') (pre ++ (av' ++ post))
  | _, _, _, i, .nil, h => absurd h (Nat.not_lt_zero _)
  | _, _, _, 0, .un (as := as) r, _ => ⟨[], [], as, rfl, fun s e n => by cases e; exact absurd rfl n, fun G' H' c v' s' av' q => (show RepE K G' H' _ _ (av' ++ as) from .cons q (r.car c))⟩
  | _, _, _, 0, .cons (v := v) (a := a) (as := as) h r, _ => ⟨[], a, as, rfl, fun s e n => by cases e; exact ⟨v, rfl, h⟩, fun G' H' c v' s' av' q => (show RepE K G' H' _ _ (av' ++ as) from .cons q (r.car c))⟩
  | _, _, _, i + 1, .un r, h => by
    obtain ⟨pre, av, post, e, f, g⟩ := r.at (i := i) (by simpa using h)
    exact ⟨pre, av, post, e, fun s q n => f s (by simpa using q) n, fun G' H' c v' s' av' q => .un (g G' H' c v' s' av' q)⟩
  | _, _, _, i + 1, .cons (a := a) h0 r, h => by
    obtain ⟨pre, av, post, e, f, g⟩ := r.at (i := i) (by simpa using h)
    refine ⟨a ++ pre, av, post, by rw [e, List.append_assoc], fun s q n => f s (by simpa using q) n, fun G' H' c v' s' av' q => ?_⟩
    rw [List.append_assoc]
    exact .cons (h0.car (c.less (by simp +contextual))) (g G' H' (c.less (by
      intro a h
      rcases List.mem_append.mp h with h | h <;> simp [h])) v' s' av' q)
theorem RepE.len : ∀ {σ : L2.St} {Γ : Env} {as : List Addr}, RepE K G H σ Γ as → σ.length = Γ.length
  | _, _, _, .nil => rfl
  | _, _, _, .un r => by simp [r.len]
  | _, _, _, .cons _ r => by simp [r.len]
end
theorem set_same {α : Type} : ∀ {l : List α} {i : Nat} {x : α}, l[i]? = some x → l.set i x = l
  | [], _, _, h => rfl
  | a :: l, 0, x, h => by cases h; rfl
  | a :: l, i + 1, x, h => by
    show a :: l.set i x = a :: l
    rw [set_same (l := l) (i := i) (by simpa using h)]

/-! ## readings by what an expression comes to -/
/-- how an exception lies: its class by name, its field -/
def XRep (K : PySem.W.Frag) (ca : Str → Addr) (G H : Hp) (cls : Value) (dd : Option Addr) (c : Str) (d : PyData) : Prop :=
  cls = .ref (ca c) ∧ ((d = .none ∧ dd = none) ∨ ∃ p v, dd = some p ∧ H p = some (.xd [(("at" : Str), v)]) ∧ Dp K G v d)
section
variable (K : PySem.W.Frag) (ca : Str → Addr) (W : WX)
def PostV (σ : L2.St) (G H : Hp) (as : List Addr) (s : Sl) (Γ' : Env) (Q : VK) : Prop :=
  ∀ v G' H' av as', RepS K G' H' v s av → RepE K G' H' σ Γ' as' → Good G' H' (av ++ as') → Stp as G H G' H' (av ++ as') → Q v H'
def PostX (σ : L2.St) (G H : Hp) (as : List Addr) (c : Str) (d : PyData) (Γ' : Env) : Prop :=
  ∀ cls dd G' H' as', RepE K G' H' σ Γ' as' → Good G' H' as' → Stp as G H G' H' as' → XRep K ca G' H' cls dd c d → W cls dd σ H'
def TEv (f : F) : TE := fun σ H Q => ∃ Γ G as, RepE K G H σ Γ as ∧ Good G H as ∧ match f Γ with
  | .ok s Γ' => PostV K σ G H as s Γ' Q
  | .ex c d Γ' => PostX K ca W σ G H as c d Γ'
  | .no => False
/-- a test -/
def TTv (f : F) : TT := fun σ H Q => TEv K ca W f σ H fun v H' => ∃ b, v = .bl b ∧ Q b H'
def tOpd : Opd → TE
  | .pl i => tVar i
  | .ex f => TEv K ca W f
def taOs : List Opd → TA
  | [] => tNil
  | o :: r => tCons (tOpd K ca W o) (taOs r)
inductive Pend (G : Hp) (σ : L2.St) : List V → List (Nat ⊕ PyData) → Prop
  | nil : Pend G σ [] []
  | pl {v : V} {i : Nat} {vs : List V} {l : List (Nat ⊕ PyData)} : σ[i]? = some (some v) → Pend G σ vs l → Pend G σ (v :: vs) (.inl i :: l)
  | dat {v : V} {d : PyData} {vs : List V} {l : List (Nat ⊕ PyData)} : Dp K G v d → Pend G σ vs l → Pend G σ (v :: vs) (.inr d :: l)
end
section
variable {K : PySem.W.Frag} {ca : Str → Addr} {W : WX}
theorem PostX.step {σ : L2.St} {G H G1 H1 : Hp} {as as1 : List Addr} {c : Str} {d : PyData} {Γ' : Env} (h : PostX K ca W σ G H as c d Γ') (p : Stp as G H G1 H1 as1) : PostX K ca W σ G1 H1 as1 c d Γ' :=
  fun cls dd G' H' as' r g q x => h cls dd G' H' as' r g (p.trans q) x
theorem PostV.step {σ : L2.St} {G H G1 H1 : Hp} {as as1 : List Addr} {s : Sl} {Γ' : Env} {Q : VK} (h : PostV K σ G H as s Γ' Q) (p : Stp as G H G1 H1 as1) : PostV K σ G1 H1 as1 s Γ' Q :=
  fun v G' H' av as' r1 r g q => h v G' H' av as' r1 r g (p.trans q)
theorem pk_un {s : Sl} {d : PyData} (h : s.pk = some d) : s ≠ .un := fun e => by subst e; cases h
theorem RepE.val {G H : Hp} {σ : L2.St} {Γ : Env} {as : List Addr} {i : Nat} {s : Sl} (r : RepE K G H σ Γ as) (e : Γ[i]? = some s) (n : s ≠ .un) : ∃ v av, σ[i]? = some (some v) ∧ RepS K G H v s av ∧ ∀ a ∈ av, a ∈ as := by
  have hi : i < Γ.length := by
    by_cases q : i < Γ.length
    · exact q
    · rw [List.getElem?_eq_none (by omega)] at e; cases e
  obtain ⟨pre, av, post, e1, f, _⟩ := r.at hi
  obtain ⟨v, hv, rs⟩ := f s e n
  exact ⟨v, av, hv, rs, fun a z => by rw [e1]; simp [z]⟩
/-- operands, from the left -/
theorem ops_run : ∀ (os : List Opd) {Γ : Env} {G H : Hp} {as : List Addr} {σ : L2.St} {Q : List V → Hp → Prop}, RepE K G H σ Γ as → Good G H as →
    (match opsF os Γ with
      | .ok l Γ' => ∀ vs G' H' as', Pend K G' σ vs l → RepE K G' H' σ Γ' as' → Good G' H' as' → Stp as G H G' H' as' → Q vs H'
      | .ex c d Γ' => PostX K ca W σ G H as c d Γ'
      | .no => False) → taOs K ca W os σ H Q
  | [], Γ, G, H, as, σ, Q, r, g, h => h [] G H as .nil r g (.refl _ _ _)
  | .pl i :: os, Γ, G, H, as, σ, Q, r, g, h => by
    unfold opsF at h
    cases q0 : Γ[i]? with
    | none => rw [q0] at h; exact h.elim
    | some s =>
      rw [q0] at h
      simp only at h
      cases q1 : s.pk with
      | none => rw [q1] at h; exact h.elim
      | some d0 =>
        rw [q1] at h
        simp only at h
        obtain ⟨v, _, hv, _⟩ := r.val q0 (pk_un q1)
        refine ⟨v, hv, ?_⟩
        refine ops_run os r g ?_
        cases q : opsF os Γ with
        | no => rw [q] at h; exact h
        | ex c d Γ' => rw [q] at h; exact h
        | ok l Γ' =>
          rw [q] at h
          exact fun vs G' H' as' pn => h (v :: vs) G' H' as' (.pl hv pn)
  | .ex f :: os, Γ, G, H, as, σ, Q, r, g, h => by
    refine ⟨Γ, G, as, r, g, ?_⟩
    unfold opsF at h
    cases q : f Γ with
    | no => rw [q] at h; exact h
    | ex c d Γ' => rw [q] at h; exact h
    | ok s Γ1 =>
      rw [q] at h
      intro v G1 H1 av as1 rs r1 g1 p1
      simp only [Res.bind] at h
      cases qz : s.fz with
      | none => rw [qz] at h; exact h.elim
      | some d =>
        rw [qz] at h
        have dv : Dp K (frz G1 H1 av) v d := rs.frz qz (fun _ z => z) (frz_kG g1 (by simp +contextual))
        have p2 := p1.frz g1
        refine ops_run os (r1.frz g1) g1.frz ?_
        simp only at h
        cases q2 : opsF os Γ1 with
        | no => rw [q2] at h; exact h
        | ex c d' Γ' => rw [q2] at h; exact PostX.step h p2
        | ok l Γ' =>
          rw [q2] at h
          exact fun vs G' H' as' pn r' g' q' => h (v :: vs) G' H' as' (.dat (Dp_mono q'.kG dv) pn) r' g' (p2.trans q')
end
end PyI

namespace L2
open PySem PySem.Spec PyProof.Rows
theorem PE.weak {X : Cx} {e : Expr} {t t' : TE} (h : PE X e t) (w : ∀ σ H Q, t' σ H Q → t σ H Q) : PE X e t' := ⟨fun pins s σ H Q I q => h.run pins s σ H Q I (w σ H Q q)⟩
theorem PT.weak {X : Cx} {e : Expr} {t t' : TT} (h : PT X e t) (w : ∀ σ H Q, t' σ H Q → t σ H Q) : PT X e t' := ⟨fun pins s σ H Q I q => h.run pins s σ H Q I (w σ H Q q)⟩
theorem PS.weak {X : Cx} {e : Stmt} {t t' : TS} (h : PS X e t) (w : ∀ D σ H, t' D σ H → t D σ H) : PS X e t' := ⟨fun pins s σ H D I q => h.run pins s σ H D I (w D σ H q)⟩
theorem PSs.weak {X : Cx} {e : List Stmt} {t t' : TS} (h : PSs X e t) (w : ∀ D σ H, t' D σ H → t D σ H) : PSs X e t' := ⟨fun pins s σ H D I q => h.run pins s σ H D I (w D σ H q)⟩
theorem PW.weak {X : Cx} {e : Expr} {t t' : TT} (h : PW X e t) (w : ∀ σ H Q, t' σ H Q → t σ H Q) : PW X e t' := ⟨fun wh pins s σ H Q I q => h.run wh pins s σ H Q I (w σ H Q q)⟩
end L2
namespace PyI
open PySem PySem.Spec PyProof.Rows L2

/-! ## primitives -/
def RepP (K : PySem.W.Frag) (G H : Hp) (v : V) (d : PyData) : Prop :=
  Dp K G v d ∨ ∃ a vs ds, v = .ref a ∧ d = .list ds ∧ H a = some (.lst vs) ∧ DpAll K G vs ds
def PrimR (K : PySem.W.Frag) (p : List PyData → Option Sl) : List V → Hp → VK → Prop := fun xs H Q => ∃ G ds s, (∀ a o, G a = some o → H a = some o) ∧ Paired (RepP K G H) xs ds ∧ p ds = some s ∧
  ∀ v G' H' av, RepS K G' H' v s av → Good G' H' av → Stp [] G H G' H' av → Q v H'
section
variable {K : PySem.W.Frag} {ca : Str → Addr} {W : WX}
theorem pend_rslv {G H : Hp} {σ : L2.St} {Γ : Env} {as : List Addr} (r : RepE K G H σ Γ as) : ∀ {vs : List V} {l : List (Nat ⊕ PyData)} {ds : List PyData}, Pend K G σ vs l → rslv Γ l = some ds → Paired (RepP K G H) vs ds
  | _, _, _, .nil, e => by cases e; exact .nil
  | _, .inr d :: l, _, .dat h pn, e => by
    unfold rslv at e
    cases q : rslv Γ l with
    | none => rw [q] at e; cases e
    | some ds => rw [q] at e; cases e; exact .cons (.inl h) (pend_rslv r pn q)
  | v :: _, .inl i :: l, _, .pl h pn, e => by
    unfold rslv at e
    cases q0 : Γ[i]? with
    | none => rw [q0] at e; cases e
    | some s =>
      rw [q0] at e
      simp only at e
      cases q1 : s.pk with
      | none => rw [q1] at e; cases e
      | some d =>
        rw [q1] at e
        simp only at e
        cases q : rslv Γ l with
        | none => rw [q] at e; cases e
        | some ds =>
          rw [q] at e
          cases e
          refine .cons ?_ (pend_rslv r pn q)
          obtain ⟨v', av, hv, rs, _⟩ := r.val q0 (pk_un q1)
          rw [h] at hv
          cases hv
          cases rs with
          | val hd => cases q1; exact .inl hd
          | lst hh hd => cases q1; exact .inr ⟨_, _, _, rfl, rfl, hh, hd⟩
          | tup hh hd => cases q1
theorem Good.join {G H G' H' : Hp} {as av : List Addr} (g : Good G H as) (g' : Good G' H' av) (p : Stp [] G H G' H' av) : Good G' H' (av ++ as) where
  sub := g'.sub
  own := fun a z => by
    rcases List.mem_append.mp z with z | z
    · exact g'.own a z
    · obtain ⟨z1, z2⟩ := g.own a z
      exact ⟨p.nG a z2 (by simp) z1, p.there a z2⟩
  nd := by
    rw [List.nodup_append]
    refine ⟨g'.nd, g.nd, fun a ha b hb e => ?_⟩
    subst e
    rcases p.own a ha with z | z
    · cases z
    · exact (g.own a hb).2 z
theorem Stp.join {as as1 av : List Addr} {G0 H0 G H G' H' : Hp} (q : Stp as G0 H0 G H as1) (p : Stp [] G H G' H' av) : Stp as G0 H0 G' H' (av ++ as1) :=
  q.trans ⟨fun a o h _ => p.kH a o h (by simp), p.kG, fun a h _ e => p.nG a h (by simp) e, fun a z => by
    rcases List.mem_append.mp z with z | z
    · exact (p.own a z).imp (by simp) id
    · exact .inl z, p.there⟩
theorem Stp.car0 {as bs : List Addr} {G H G' H' : Hp} (p : Stp [] G H G' H' as) : Car G H G' H' bs := p.car (by simp)
/-- a primitive over its operands -/
theorem prim_run {p : List PyData → Option Sl} {os : List Opd} {σ : L2.St} {H : Hp} {Q : VK} (h : TEv K ca W (primF p os) σ H Q) : taOs K ca W os σ H fun vs H' => PrimR K p vs H' Q := by
  obtain ⟨Γ, G, as, r, g, h⟩ := h
  refine ops_run os r g ?_
  unfold primF at h
  cases q : opsF os Γ with
  | no => rw [q] at h; exact h
  | ex c d Γ' => rw [q] at h; exact h
  | ok l Γ' =>
    rw [q] at h
    simp only [Res.bind] at h
    intro vs G' H' as' pn r' g' st
    cases q1 : rslv Γ' l with
    | none => rw [q1] at h; exact h.elim
    | some ds =>
      rw [q1] at h
      simp only at h
      cases q2 : p ds with
      | none => rw [q2] at h; exact h.elim
      | some s =>
        rw [q2] at h
        refine ⟨G', ds, s, g'.sub, pend_rslv r' pn q1, q2, fun v G2 H2 av rs g2 p2 => ?_⟩
        exact h v G2 H2 av as' rs (r'.car p2.car0) (g'.join g2 p2) (st.join p2)
end
section
variable {X : Cx} {K : PySem.W.Frag} {ca : Str → Addr} {W : WX} {e : Expr}
theorem xe_V {i : Nat} (h : PE X e (tVar i)) : PE X e (TEv K ca W (cV i)) := h.weak fun σ H Q ⟨Γ, G, as, r, g, h⟩ => by
  unfold cV at h
  cases q0 : Γ[i]? with
  | none => rw [q0] at h; exact h.elim
  | some s =>
    rw [q0] at h
    simp only at h
    cases q1 : s.fz with
    | none => rw [q1] at h; exact h.elim
    | some d =>
      rw [q1] at h
      simp only at h
      have hn : s ≠ .un := fun z => by subst z; cases q1
      have hi : i < Γ.length := by
        by_cases q : i < Γ.length
        · exact q
        · rw [List.getElem?_eq_none (by omega)] at q0; cases q0
      obtain ⟨pre, av, post, e1, f, k⟩ := r.at hi
      obtain ⟨v, hv, rs⟩ := f s q0 hn
      subst e1
      have gp : Good G H (av ++ (pre ++ post)) := ⟨g.sub, fun a z => g.own a (by
        rcases List.mem_append.mp z with z | z
        · simp [z]
        · rcases List.mem_append.mp z with z | z <;> simp [z]), by
        have n := g.nd
        rw [List.nodup_append] at n ⊢
        obtain ⟨n1, n2, n3⟩ := n
        rw [List.nodup_append] at n2
        obtain ⟨n4, n5, n6⟩ := n2
        refine ⟨n4, ?_, fun a ha b hb => ?_⟩
        · rw [List.nodup_append]
          exact ⟨n1, n5, fun a ha b hb => n3 a ha b (by simp [hb])⟩
        · rcases List.mem_append.mp hb with hb | hb
          · exact fun z => n3 b hb a (by simp [ha]) z.symm
          · exact n6 a ha b hb⟩
      have kg := frz_kG (av := av) gp (by simp +contextual)
      have dv : Dp K (frz G H av) v d := rs.frz q1 (fun _ z => z) kg
      refine ⟨v, hv, h v (frz G H av) H [] (pre ++ post) (.val dv) ?_ ?_ ?_⟩
      · have z := k (frz G H av) H ⟨kg, fun _ _ _ e => e⟩ v (.val d) [] (.val dv)
        rw [set_same hv] at z
        exact z
      · exact gp.frz
      · refine ⟨fun _ _ h _ => h, kg, fun a h1 h2 h3 => ?_, fun a z => .inl ?_, fun _ h => h⟩
        · rw [frz_out (fun z => h2 (by simp [z]))]; exact h3
        · have z : a ∈ pre ++ post := z
          rcases List.mem_append.mp z with z | z <;> simp [z]
/-- a constant -/
theorem xe_C {v : V} {d : PyData} (h : PE X e (tC v)) (k : ∀ G, Dp K G v d) : PE X e (TEv K ca W (cC d)) := h.weak fun σ H Q ⟨Γ, G, as, r, g, h⟩ =>
  h v G H [] as (.val (k G)) r g (.refl _ _ _)
theorem TEv_bit {f : F} {k : Bool → Env → Res Sl} {σ : L2.St} {H : Hp} {Q : VK} (h : TEv K ca W (fun Γ => tstF (f Γ) k) σ H Q) :
    TEv K ca W f σ H fun v H' => ∃ b, v = .bl b ∧ TEv K ca W (k b) σ H' Q := by
  obtain ⟨Γ, G, as, r, g, h⟩ := h
  refine ⟨Γ, G, as, r, g, ?_⟩
  unfold tstF at h
  dsimp only at h
  cases q : f Γ with
  | no => rw [q] at h; exact h
  | ex c d Γ' => rw [q] at h; exact h
  | ok s Γ' =>
    rw [q] at h
    simp only [Res.bind] at h
    intro v G' H' av as' rs r' g' p
    cases rs with
    | val hd =>
      rename_i d
      cases hd with
      | bl b =>
        refine ⟨b, rfl, Γ', G', as', r', g', ?_⟩
        have h : (match k b Γ' with
          | .ok s Γ' => PostV K σ G H as s Γ' Q
          | .ex c d Γ' => PostX K ca W σ G H as c d Γ'
          | .no => False) := h
        cases q2 : k b Γ' with
        | no => rw [q2] at h; exact h
        | ex c d Γ2 => rw [q2] at h; exact PostX.step h p
        | ok s2 Γ2 => rw [q2] at h; exact PostV.step h p
      | non => exact h.elim
      | int i => exact h.elim
      | str x => exact h.elim
      | lst _ _ => exact h.elim
      | tup _ _ => exact h.elim
    | lst _ _ => exact h.elim
    | tup _ _ => exact h.elim
theorem TTv_of {f : F} (h : PE X e (TEv K ca W f)) (he : ∀ whole, isTrue e X.env whole = (do let v ← whole; standAt e.pos; holding [v] (truthy v))) : PT X e (TTv K ca W f) :=
  (pt_val h he).weak fun σ H Q q => q
/-- what a test gives as a value -/
theorem TEv_b {b : Bool} {σ : L2.St} {H : Hp} {Q : VK} (h : TEv K ca W (fun Γ => .ok (vB b) Γ) σ H Q) : Q (.bl b) H := by
  obtain ⟨Γ, G, as, r, g, h⟩ := h
  exact h (.bl b) G H [] as (.val (.bl b)) r g (.refl _ _ _)
variable {a b : Expr} {rest : List Expr} {fa fb fc : F} {pos : Pos}
theorem andF_eq : andF fa fb = fun Γ => tstF (fa Γ) fun c Γ1 => (match c with
  | true => fb
  | false => fun Γ => Res.ok (vB false) Γ : F) Γ1 := by
  funext Γ; unfold andF; congr 1; funext c Γ1; cases c <;> rfl
theorem orF_eq : orF fa fb = fun Γ => tstF (fa Γ) fun c Γ1 => (match c with
  | true => fun Γ => Res.ok (vB true) Γ
  | false => fb : F) Γ1 := by
  funext Γ; unfold orF; congr 1; funext c Γ1; cases c <;> rfl
theorem iteF_eq : iteF fc fa fb = fun Γ => tstF (fc Γ) fun c Γ1 => (match c with
  | true => fa
  | false => fb : F) Γ1 := by
  funext Γ; unfold iteF; congr 1; funext c Γ1; cases c <;> rfl
theorem TEv_mono {f : F} {σ : L2.St} {H : Hp} {Q Q' : VK} (h : TEv K ca W f σ H Q) (w : ∀ v H', Q v H' → Q' v H') : TEv K ca W f σ H Q' := by
  obtain ⟨Γ, G, as, r, g, h⟩ := h
  refine ⟨Γ, G, as, r, g, ?_⟩
  revert h
  cases f Γ with
  | no => exact id
  | ex c d e => exact id
  | ok s e => exact fun h v G' H' av as' r1 r2 g1 p => w _ _ (h v G' H' av as' r1 r2 g1 p)
theorem xe_and (ha : PE X a (TEv K ca W fa)) (hb : PE X (.BoolOp .And (b :: rest) pos) (TEv K ca W fb)) : PE X (.BoolOp .And (a :: b :: rest) pos) (TEv K ca W (andF fa fb)) :=
  PE.weak (pe_and ha hb) fun σ H Q h => by
    rw [andF_eq] at h
    refine TEv_mono (TEv_bit h) fun v H' ⟨b, e, q⟩ => ⟨b, e, ?_⟩
    cases b with
    | true => exact L2.iteT q
    | false => exact L2.iteF (TEv_b q)
theorem xe_or (ha : PE X a (TEv K ca W fa)) (hb : PE X (.BoolOp .Or (b :: rest) pos) (TEv K ca W fb)) : PE X (.BoolOp .Or (a :: b :: rest) pos) (TEv K ca W (orF fa fb)) :=
  PE.weak (pe_or ha hb) fun σ H Q h => by
    rw [orF_eq] at h
    refine TEv_mono (TEv_bit h) fun v H' ⟨b, e, q⟩ => ⟨b, e, ?_⟩
    cases b with
    | true => exact L2.iteT (TEv_b q)
    | false => exact L2.iteF q
theorem xe_not (ha : PE X a (TEv K ca W fa)) : PE X (.UnaryOp .Not a pos) (TEv K ca W (notF fa)) :=
  (pe_not ha).weak fun σ H Q h => TEv_mono (TEv_bit (k := fun c Γ1 => .ok (vB !c) Γ1) h) fun v H' ⟨b, e, q⟩ => ⟨b, e, TEv_b (b := !b) q⟩
theorem xe_ite {c : Expr} (hc : PT X c (TTv K ca W fc)) (ha : PE X a (TEv K ca W fa)) (hb : PE X b (TEv K ca W fb)) : PE X (.IfExp c a b pos) (TEv K ca W (iteF fc fa fb)) :=
  (pe_ifExp hc ha hb).weak fun σ H Q h => by
    rw [iteF_eq] at h
    refine TEv_mono (TEv_bit h) fun v H' ⟨b, e, q⟩ => ⟨b, e, ?_⟩
    cases b with
    | true => exact L2.iteT q
    | false => exact L2.iteF q
/-! tests -/
theorem xt_and1 (ha : PT X a (TTv K ca W fa)) : PW X (.BoolOp .And [a] pos) (TTv K ca W fa) := pw_and1 ha
theorem xt_or1 (ha : PT X a (TTv K ca W fa)) : PW X (.BoolOp .Or [a] pos) (TTv K ca W fa) := pw_or1 ha
theorem xt_and (ha : PT X a (TTv K ca W fa)) (hb : PW X (.BoolOp .And (b :: rest) pos) (TTv K ca W fb)) : PW X (.BoolOp .And (a :: b :: rest) pos) (TTv K ca W (andF fa fb)) :=
  PW.weak (pw_and ha hb) fun σ H Q h => by
    unfold TTv at h
    rw [andF_eq] at h
    refine TEv_mono (TEv_bit h) fun v H' ⟨b, e, q⟩ => ⟨b, e, ?_⟩
    cases b with
    | true => exact L2.iteT q
    | false =>
      obtain ⟨b, e, q⟩ := TEv_b q
      cases e
      exact L2.iteF q
theorem xt_or (ha : PT X a (TTv K ca W fa)) (hb : PW X (.BoolOp .Or (b :: rest) pos) (TTv K ca W fb)) : PW X (.BoolOp .Or (a :: b :: rest) pos) (TTv K ca W (orF fa fb)) :=
  PW.weak (pw_or ha hb) fun σ H Q h => by
    unfold TTv at h
    rw [orF_eq] at h
    refine TEv_mono (TEv_bit h) fun v H' ⟨b, e, q⟩ => ⟨b, e, ?_⟩
    cases b with
    | true =>
      obtain ⟨b, e, q⟩ := TEv_b q
      cases e
      exact L2.iteT q
    | false => exact L2.iteF q
theorem xt_not (ha : PT X a (TTv K ca W fa)) : PT X (.UnaryOp .Not a pos) (TTv K ca W (notF fa)) :=
  PT.weak (pt_not ha) fun σ H Q h => TEv_mono (TEv_bit (k := fun c Γ1 => .ok (vB !c) Γ1) h) fun v H' ⟨b, e, q⟩ => by
    obtain ⟨b', e', q'⟩ := TEv_b (b := !b) q
    cases e'
    exact ⟨b, e, q'⟩
end
end PyI

namespace PyI
open PySem PySem.Spec PyProof.Rows L2

/-! ## defs -/
/-- a def's promise by what it comes to; io: its first parameter is the caller's own list, and is handed back -/
def SpF (K : PySem.W.Frag) (ca : Str → Addr) (io : Bool) (n : Nat) (f : Fn) : Sp := fun vs H Q E => vs.length = n ∧ ∃ G as ss, RepL K G H vs ss as ∧ Good G H as ∧ (io = false → as = []) ∧ match f ss with
  | .ok s b => ∀ v G' H' av ab, RepS K G' H' v s av → (io = true → ∃ v0, vs[0]? = some v0 ∧ RepS K G' H' v0 b ab) → (io = false → ab = []) → Good G' H' (av ++ ab) → Stp as G H G' H' (av ++ ab) → Q v H'
  | .ex c d b => ∀ cls dd G' H' ab, (io = true → ∃ v0, vs[0]? = some v0 ∧ RepS K G' H' v0 b ab) → (io = false → ab = []) → Good G' H' ab → Stp as G H G' H' ab → XRep K ca G' H' cls dd c d → E cls dd H'
  | .no => False
theorem SpF.len {K : PySem.W.Frag} {ca : Str → Addr} {io : Bool} {n : Nat} {f : Fn} (vs : List V) (H : Hp) (Q : VK) (E : XK) (h : SpF K ca io n f vs H Q E) : vs.length = n := h.1
section
variable {K : PySem.W.Frag} {ca : Str → Addr} {W : WX}
theorem pend_ex {G : Hp} {σ : L2.St} {Γ : Env} : ∀ {os : List F} {vs : List V} {l : List (Nat ⊕ PyData)} {ds : List PyData} {Γ0 : Env}, Pend K G σ vs l → rslv Γ l = some ds → (∃ Γ1, opsF (os.map .ex) Γ0 = .ok l Γ1) → DpAll K G vs ds ∧ ds.length = os.length
  | [], _, l, ds, Γ0, pn, e, ⟨Γ1, h⟩ => by
    cases h
    cases pn
    cases e
    exact ⟨.nil, rfl⟩
  | f :: os, vs, l, ds, Γ0, pn, e, ⟨Γ1, h⟩ => by
    unfold List.map opsF at h
    cases q : f Γ0 with
    | no => rw [q] at h; cases h
    | ex c d Γ' => rw [q] at h; cases h
    | ok s Γ2 =>
      rw [q] at h
      simp only [Res.bind] at h
      cases qz : s.fz with
      | none => rw [qz] at h; cases h
      | some d =>
        rw [qz] at h
        simp only at h
        cases q2 : opsF (os.map .ex) Γ2 with
        | no => rw [q2] at h; cases h
        | ex c d Γ' => rw [q2] at h; cases h
        | ok l2 Γ3 =>
          rw [q2] at h
          cases h
          cases pn with
          | dat hd pn =>
            unfold rslv at e
            cases q3 : rslv Γ l2 with
            | none => rw [q3] at e; cases e
            | some ds2 =>
              rw [q3] at e
              cases e
              obtain ⟨r1, r2⟩ := pend_ex (os := os) pn q3 ⟨_, q2⟩
              exact ⟨.cons hd r1, by simp [r2]⟩
theorem repL_vals {G H : Hp} : ∀ {vs : List V} {ds : List PyData}, DpAll K G vs ds → RepL K G H vs (ds.map .val) []
  | _, _, .nil => .nil
  | _, _, .cons h r => .cons (as := []) (.val h) (repL_vals r)
theorem DpAll_len {G : Hp} : ∀ {vs : List V} {ds : List PyData}, DpAll K G vs ds → vs.length = ds.length
  | _, _, .nil => rfl
  | _, _, .cons _ r => by simp [DpAll_len r]
theorem Good.nil {G H : Hp} {as : List Addr} (g : Good G H as) : Good G H [] := ⟨g.sub, by simp, .nil⟩
/-- a call with data alone -/
theorem call_run {f : Fn} {os : List F} {σ : L2.St} {H : Hp} {Q : VK} (h : TEv K ca W (callF f os) σ H Q) : taOs K ca W (os.map .ex) σ H fun vs H' => SpF K ca false os.length f vs H' Q (WE W σ) := by
  obtain ⟨Γ, G, as, r, g, h⟩ := h
  refine ops_run _ r g ?_
  unfold callF at h
  cases q : opsF (os.map .ex) Γ with
  | no => rw [q] at h; exact h
  | ex c d Γ' => rw [q] at h; exact h
  | ok l Γ' =>
    rw [q] at h
    simp only [Res.bind] at h
    intro vs G' H' as' pn r' g' st
    cases q1 : rslv Γ' l with
    | none => rw [q1] at h; exact h.elim
    | some ds =>
      rw [q1] at h
      simp only at h
      obtain ⟨da, dl⟩ := pend_ex pn q1 ⟨Γ', q⟩
      refine ⟨(DpAll_len da).trans dl, G', [], ds.map .val, repL_vals da, g'.nil, fun _ => rfl, ?_⟩
      cases q2 : f (ds.map .val) with
      | no => rw [q2] at h; exact h.elim
      | ok s b =>
        rw [q2] at h
        intro v G2 H2 av ab rs _ e0 g2 p2
        obtain rfl := e0 rfl
        rw [List.append_nil] at g2 p2
        exact h v G2 H2 av as' rs (r'.car p2.car0) (g'.join g2 p2) (st.join p2)
      | ex c d b =>
        rw [q2] at h
        intro cls dd G2 H2 ab _ e0 g2 p2 x
        obtain rfl := e0 rfl
        exact h cls dd G2 H2 as' (r'.car p2.car0) (g'.join (av := []) g2 p2) (st.join p2) x
theorem Good.sub' {G H : Hp} {as bs : List Addr} (g : Good G H as) (h : ∀ a ∈ bs, a ∈ as) (n : bs.Nodup) : Good G H bs := ⟨g.sub, fun a z => g.own a (h a z), n⟩
/-- a call that hands on slot i's own list -/
theorem callIO_run {f : Fn} {i : Nat} {os : List F} {σ : L2.St} {H : Hp} {Q : VK} (h : TEv K ca W (callIO f i os) σ H Q) :
    tCons (tVar i) (taOs K ca W (os.map .ex)) σ H fun vs H' => SpF K ca true (os.length + 1) f vs H' Q (WE W σ) := by
  obtain ⟨Γ, G, as, r, g, h⟩ := h
  unfold callIO at h
  cases qi : Γ[i]? with
  | none => rw [qi] at h; exact h.elim
  | some sI =>
  rw [qi] at h
  dsimp only at h
  by_cases owI : sI.owned = true
  case neg => rw [if_neg owI] at h; exact h.elim
  rw [if_pos owI] at h
  obtain ⟨v0, _, hv0, _, _⟩ := r.val qi (fun z => by subst z; cases owI)
  refine ⟨v0, hv0, ?_⟩
  refine ops_run _ r g ?_
  cases q : opsF (os.map .ex) Γ with
  | no => rw [q] at h; exact h
  | ex c d Γ' => rw [q] at h; exact h
  | ok l Γ' =>
    rw [q] at h
    simp only [Res.bind] at h
    intro vs G' H' as' pn r' g' st
    cases q1 : rslv Γ' l with
    | none => rw [q1] at h; exact h.elim
    | some ds =>
      rw [q1] at h
      cases q3 : Γ'[i]? with
      | none => rw [q3] at h; exact h.elim
      | some s0 =>
        rw [q3] at h
        simp only at h
        by_cases ow : s0.owned = true
        · rw [if_pos ow] at h
          obtain ⟨da, dl⟩ := pend_ex pn q1 ⟨Γ', q⟩
          have hl : i < Γ'.length := by
            by_cases z : i < Γ'.length
            · exact z
            · rw [List.getElem?_eq_none (by omega)] at q3; cases q3
          obtain ⟨pre, a0, post, e1, fr, kr⟩ := r'.at hl
          obtain ⟨v0', hv0', rs0⟩ := fr s0 q3 (fun z => by subst z; cases ow)
          rw [hv0] at hv0'
          cases hv0'
          subst e1
          have nd := g'.nd
          have gA : Good G' H' (a0 ++ []) := by
            rw [List.append_nil]
            exact g'.sub' (by simp +contextual) (List.nodup_append.mp (List.nodup_append.mp nd).2.1).1
          refine ⟨by simp [DpAll_len da, dl], G', a0 ++ [], s0 :: ds.map .val, .cons rs0 (repL_vals da), gA, (fun z => by cases z), ?_⟩
          rw [List.append_nil]
          have rest : ∀ {G2 H2 ab}, Stp a0 G' H' G2 H2 ab → Car G' H' G2 H2 (pre ++ post) := fun p2 => p2.car fun a z y => by
            obtain ⟨n1, n2, n3⟩ := List.nodup_append.mp nd
            obtain ⟨n4, n5, n6⟩ := List.nodup_append.mp n2
            rcases List.mem_append.mp z with z | z
            · exact n3 a z a (by simp [y]) rfl
            · exact n6 a y a z rfl
          -- what is owned behind the call
          have own : ∀ {G2 H2 : Hp} {ab av : List Addr}, Good G2 H2 (av ++ ab) → Stp a0 G' H' G2 H2 (av ++ ab) → Good G2 H2 (av ++ (pre ++ (ab ++ post))) ∧ Stp as G H G2 H2 (av ++ (pre ++ (ab ++ post))) := fun {G2 H2 ab av} g2 p2 => by
            obtain ⟨n1, n2, n3⟩ := List.nodup_append.mp nd
            obtain ⟨n4, n5, n6⟩ := List.nodup_append.mp n2
            obtain ⟨m1, m2, m3⟩ := List.nodup_append.mp g2.nd
            have old : ∀ a, a ∈ pre ∨ a ∈ post → a ∉ av ++ ab := fun a z y => by
              have oa : a ∈ pre ++ (a0 ++ post) := by rcases z with z | z <;> simp [z]
              rcases p2.own a y with u | u
              · rcases z with z | z
                · exact n3 a z a (by simp [u]) rfl
                · exact n6 a u a z rfl
              · exact (g'.own a oa).2 u
            constructor
            · refine ⟨g2.sub, fun a z => ?_, ?_⟩
              · by_cases y : a ∈ av ++ ab
                · exact g2.own a y
                · have oa : a ∈ pre ++ (a0 ++ post) ∧ a ∉ a0 := by
                    simp only [List.mem_append, not_or] at z y ⊢
                    have z' : a ∈ pre ∨ a ∈ post := by
                      rcases z with z | z | z | z
                      · exact absurd z y.1
                      · exact .inl z
                      · exact absurd z y.2
                      · exact .inr z
                    refine ⟨by rcases z' with z | z <;> simp [z], fun u => ?_⟩
                    rcases z' with z | z
                    · exact n3 a z a (by simp [u]) rfl
                    · exact n6 a u a z rfl
                  obtain ⟨o1, o2⟩ := g'.own a oa.1
                  exact ⟨p2.nG a o2 oa.2 o1, p2.there a o2⟩
              · rw [List.nodup_append]
                refine ⟨m1, ?_, fun a ha b hb e => ?_⟩
                · rw [List.nodup_append]
                  refine ⟨n1, ?_, fun a ha b hb e => ?_⟩
                  · rw [List.nodup_append]
                    refine ⟨m2, n5, fun a ha b hb e => ?_⟩
                    subst e
                    exact old a (.inr hb) (by simp [ha])
                  · subst e
                    rcases List.mem_append.mp hb with hb | hb
                    · exact old a (.inl ha) (by simp [hb])
                    · exact n3 a ha a (by simp [hb]) rfl
                · subst e
                  rcases List.mem_append.mp hb with hb | hb
                  · exact old a (.inl hb) (by simp [ha])
                  · rcases List.mem_append.mp hb with hb | hb
                    · exact m3 a ha a hb rfl
                    · exact old a (.inr hb) (by simp [ha])
            · have p3 : Stp (pre ++ (a0 ++ post)) G' H' G2 H2 (av ++ (pre ++ (ab ++ post))) := ⟨fun a o h n => p2.kH a o h (fun z => n (by simp [z])), p2.kG, fun a h n => p2.nG a h (fun z => n (by simp [z])), fun a z => by
                by_cases y : a ∈ av ++ ab
                · exact (p2.own a y).imp (fun u => by simp [u]) id
                · refine .inl ?_
                  simp only [List.mem_append, not_or] at z y ⊢
                  rcases z with z | z | z | z
                  · exact absurd z y.1
                  · exact .inl z
                  · exact absurd z y.2
                  · exact .inr (.inr z), p2.there⟩
              exact st.trans p3
          cases q2 : f (s0 :: ds.map .val) with
          | no => rw [q2] at h; exact h.elim
          | ok s b =>
            rw [q2] at h
            intro v G2 H2 av ab rs bk _ g2 p2
            obtain ⟨v1, e1, rb⟩ := bk rfl
            cases e1
            have z := kr G2 H2 (rest p2) v0 b ab rb
            rw [set_same hv0] at z
            obtain ⟨o1, o2⟩ := own g2 p2
            exact h v G2 H2 av _ rs z o1 o2
          | ex c d b =>
            rw [q2] at h
            intro cls dd G2 H2 ab bk _ g2 p2 x
            obtain ⟨v1, e1, rb⟩ := bk rfl
            cases e1
            have z := kr G2 H2 (rest p2) v0 b ab rb
            rw [set_same hv0] at z
            obtain ⟨o1, o2⟩ := own (av := []) g2 p2
            exact h cls dd G2 H2 _ z o1 o2 x
        · rw [if_neg ow] at h
          exact h.elim
end
end PyI

namespace PyI
open PySem PySem.Spec PyProof.Rows L2

/-! ## what is walked -/
inductive Tg where
  | one (i : Nat)
  | tup (is : List Nat)
def Tg.all : Tg → List Nat
  | .one i => [i]
  | .tup is => is
def setAll : List Nat → List PyData → Env → Option Env
  | [], [], Γ => some Γ
  | i :: is, d :: ds, Γ => setAll is ds (Γ.set i (.val d))
  | _, _, _ => none
def setTg : Tg → PyData → Env → Option Env
  | .one i, d, Γ => some (Γ.set i (.val d))
  | .tup is, .tuple ds, Γ => setAll is ds Γ
  | _, _, _ => none
abbrev IF := Env → Res (List PyData)
/-- a walk over data -/
def itF (f : F) : IF := fun Γ => (f Γ).bind fun s Γ' => match s.fz with
  | some (.list ds) => .ok ds Γ'
  | some (.tuple ds) => .ok ds Γ'
  | _ => .no
def lcL (g : PyData → Env → Res (Option PyData)) : List PyData → Env → Res (List PyData)
  | [], Γ => .ok [] Γ
  | d :: ds, Γ => match g d Γ with
    | .ok o Γ' => (match lcL g ds Γ' with
      | .ok l Γ2 => .ok (o.toList ++ l) Γ2
      | .ex _ _ _ => .no
      | .no => .no)
    | .ex _ _ _ => .no
    | .no => .no
def unE (own : List Nat) : Nat → Env → Env
  | _, [] => []
  | k, s :: Γ => (if own.contains k then .un else s) :: unE own (k + 1) Γ
def mixE (own : List Nat) : Nat → Env → Env → Env
  | k, s :: Γ, s' :: Γ' => (if own.contains k then s else s') :: mixE own (k + 1) Γ Γ'
  | _, _, _ => []
def Sl.isDat : Sl → Bool
  | .un => true
  | .val _ => true
  | _ => false
def datE (own : List Nat) : Nat → Env → Bool
  | _, [] => true
  | k, s :: Γ => (if own.contains k then s.isDat else true) && datE own (k + 1) Γ
/-- one turn of a comprehension -/
def elt1 (e : F) (Γ : Env) : Res (Option PyData) := (e Γ).bind fun s Γ2 => match s.fz with
  | some x => .ok (some x) Γ2
  | none => .no
def lcT (tg : Tg) (t : Option F) (e : F) (own : List Nat) (d : PyData) (Γ : Env) : Res (Option PyData) := match setTg tg d (unE own 0 Γ) with
  | none => .no
  | some Γ1 => match t with
    | none => elt1 e Γ1
    | some c => (c Γ1).bind fun s Γ2 => match s.bit with
      | some true => elt1 e Γ2
      | some false => .ok none Γ2
      | none => .no
def compF (it : IF) (tg : Tg) (t : Option F) (e : F) (own : List Nat) : F := fun Γ => (it Γ).bind fun ds Γ1 => match datE own 0 Γ1, lcL (lcT tg t e own) ds Γ1 with
  | true, .ok l Γ2 => .ok (.lst l) (mixE own 0 Γ1 Γ2)
  | _, _ => .no

/-- the items that a walk gives, whatever the heap grows to -/
structure IterOk (K : PySem.W.Frag) (G0 H0 : Hp) (J : It) (ds : List PyData) : Prop where
  sz : ds.length ≤ sizeLine
  turn : ∀ G H : Hp, (∀ a o, G0 a = some o → G a = some o) → (∀ a o, G a = some o → H a = some o) → ∀ i d, ds[i]? = some d → J.go i H ∧ ∀ x H', J.yld i H x H' → ∃ G', Dp K G' x d ∧ Good G' H' [] ∧ Stp [] G H G' H' []
  stop : ∀ G H : Hp, (∀ a o, G0 a = some o → G a = some o) → (∀ a o, G a = some o → H a = some o) → J.stop ds.length H
section
variable (K : PySem.W.Frag) (ca : Str → Addr) (W : WX)
def TIv (f : IF) : TI := fun σ H R => ∃ Γ G as, RepE K G H σ Γ as ∧ Good G H as ∧ match f Γ with
  | .ok ds Γ' => ∀ J G' H' as', IterOk K G' H' J ds → RepE K G' H' σ Γ' as' → Good G' H' as' → Stp as G H G' H' as' → R J H'
  | .ex c d Γ' => PostX K ca W σ G H as c d Γ'
  | .no => False
/-- a target's reading stores what setTg says -/
def TgOk (tg : Tg) (g : TG) : Prop := ∀ (v : V) (d : PyData) (σ : L2.St) (Γ Γ' : Env) (G H : Hp) (as : List Addr) (Q : L2.St → Hp → Prop), RepE K G H σ Γ as → Good G H as → Dp K G v d → setTg tg d Γ = some Γ' →
  (∀ σ' as', RepE K G H σ' Γ' as' → as'.Sublist as → σ'.length = σ.length → (∀ j, j ∉ tg.all → σ'[j]? = σ[j]?) → Q σ' H) → g v σ H Q
end
section
variable {K : PySem.W.Frag} {ca : Str → Addr} {W : WX}
theorem RepE.set1 {G H : Hp} : ∀ {σ : L2.St} {Γ : Env} {as : List Addr} {v : V} {d : PyData} (i : Nat), RepE K G H σ Γ as → Dp K G v d → ∃ as', RepE K G H (σ.set i (some v)) (Γ.set i (.val d)) as' ∧ as'.Sublist as
  | _, _, _, v, d, i, .nil, h => ⟨[], by simpa using RepE.nil, List.Sublist.refl _⟩
  | _, _, _, v, d, 0, .un (as := as) r, h => ⟨[] ++ as, .cons (.val h) r, List.Sublist.refl _⟩
  | _, _, _, v, d, 0, .cons (a := a) (as := as) _ r, h => ⟨[] ++ as, .cons (.val h) r, by simp⟩
  | _, _, _, v, d, i + 1, .un r, h => by
    obtain ⟨as', r', s⟩ := RepE.set1 i r h
    exact ⟨as', .un r', s⟩
  | _, _, _, v, d, i + 1, .cons (a := a) r0 r, h => by
    obtain ⟨as', r', s⟩ := RepE.set1 i r h
    exact ⟨a ++ as', .cons r0 r', List.Sublist.append (List.Sublist.refl _) s⟩
theorem Good.subl {G H : Hp} {as bs : List Addr} (g : Good G H as) (h : bs.Sublist as) : Good G H bs := g.sub' (fun _ z => h.subset z) (h.nodup g.nd)
theorem tg_one {i : Nat} : TgOk K (.one i) (gName i) := fun v d σ Γ Γ' G H as Q r g h e q => by
  cases e
  obtain ⟨as', r', s⟩ := r.set1 i h
  exact q _ as' r' s (by simp) fun j hj => by
    rw [List.getElem?_set_ne]
    exact fun z => hj (by simp [Tg.all, z])
theorem tup_all {G H : Hp} {Q : L2.St → Hp → Prop} : ∀ (is : List Nat) {vs : List V} {ds : List PyData} {σ : L2.St} {Γ Γ' : Env} {as : List Addr}, RepE K G H σ Γ as → DpAll K G vs ds → setAll is ds Γ = some Γ' →
    (∀ σ' as', RepE K G H σ' Γ' as' → as'.Sublist as → σ'.length = σ.length → (∀ j, j ∉ is → σ'[j]? = σ[j]?) → Q σ' H) → (is.foldr (fun i t => gCons (gName i) t) gNil) vs σ H Q
  | [], vs, ds, σ, Γ, Γ', as, r, h, e, q => by
    cases ds with
    | nil => cases e; cases h; exact ⟨rfl, q σ as r (List.Sublist.refl _) rfl fun _ _ => rfl⟩
    | cons d ds => cases e
  | i :: is, vs, ds, σ, Γ, Γ', as, r, h, e, q => by
    cases ds with
    | nil => cases e
    | cons d ds =>
      cases h with
      | cons h hs =>
        obtain ⟨as', r', s⟩ := r.set1 i h
        refine ⟨_, _, rfl, ?_⟩
        refine tup_all is r' hs e fun σ' as2 r2 s2 l2 k2 => ?_
        refine q σ' as2 r2 (s2.trans s) (by simpa using l2) fun j hj => ?_
        rw [k2 j (fun z => hj (by simp [z])), List.getElem?_set_ne]
        exact fun z => hj (by simp [z])
theorem dp_tup {G : Hp} {v : V} {ds : List PyData} (h : Dp K G v (.tuple ds)) : ∃ a vs, v = .ref a ∧ SqT K G a vs ∧ DpAll K G vs ds := by
  cases h with
  | tup h1 h2 => exact ⟨_, _, rfl, h1, h2⟩
theorem dp_lst {G : Hp} {v : V} {ds : List PyData} (h : Dp K G v (.list ds)) : ∃ a vs, v = .ref a ∧ SqL K G a vs ∧ DpAll K G vs ds := by
  cases h with
  | lst h1 h2 => exact ⟨_, _, rfl, h1, h2⟩
theorem setAll_len : ∀ {is : List Nat} {ds : List PyData} {Γ Γ' : Env}, setAll is ds Γ = some Γ' → ds.length = is.length
  | [], [], _, _, _ => rfl
  | [], _ :: _, _, _, h => by cases h
  | _ :: _, [], _, _, h => by cases h
  | i :: is, d :: ds, Γ, Γ', h => by simp [setAll_len (is := is) (ds := ds) h]
theorem tg_tup {is : List Nat} {n : Nat} (hn : n = is.length) : TgOk K (.tup is) (gTup K n (is.foldr (fun i t => gCons (gName i) t) gNil)) := fun v d σ Γ Γ' G H as Q r g h e q => by
  cases d with
  | tuple ds =>
    obtain ⟨a, vs, rfl, h1, h2⟩ := dp_tup h
    have e' : setAll is ds Γ = some Γ' := e
    refine ⟨a, vs, rfl, seqT_mono g.sub h1, ?_, tup_all is r h2 e' q⟩
    rw [hn, DpAll_len h2, setAll_len e']
  | none => cases e
  | bool _ => cases e
  | int _ => cases e
  | str _ => cases e
  | list _ => cases e
  | dict _ => cases e
/-- own slots hidden -/
theorem RepE.hide {G H : Hp} (own : List Nat) : ∀ {σ σ' : L2.St} {Γ : Env} {as : List Addr} (k : Nat), RepE K G H σ Γ as → σ'.length = σ.length → (∀ j, (k + j) ∉ own → σ'[j]? = σ[j]?) → ∃ as', RepE K G H σ' (unE own k Γ) as' ∧ as'.Sublist as
  | _, [], _, _, k, .nil, _, _ => ⟨[], .nil, List.Sublist.refl _⟩
  | _, _ :: _, _, _, k, .nil, h, _ => by simp at h
  | _, [], _, _, k, .un _, h, _ => by simp at h
  | _, [], _, _, k, .cons _ _, h, _ => by simp at h
  | _, y :: σ', _, _, k, .un r, hl, h => by
    obtain ⟨as', r', s⟩ := RepE.hide own (σ' := σ') (k + 1) r (by simpa using hl) (fun j hj => by have := h (j + 1) (by rw [show k + (j + 1) = k + 1 + j by omega]; exact hj); simpa using this)
    refine ⟨as', ?_, s⟩
    unfold unE
    by_cases c : own.contains k = true
    · rw [if_pos c]; exact .un r'
    · rw [if_neg c]; exact .un r'
  | _, y :: σ', _, _, k, .cons (v := v) (s := sl) (a := a) r0 r, hl, h => by
    obtain ⟨as', r', s⟩ := RepE.hide own (σ' := σ') (k + 1) r (by simpa using hl) (fun j hj => by have := h (j + 1) (by rw [show k + (j + 1) = k + 1 + j by omega]; exact hj); simpa using this)
    unfold unE
    by_cases c : own.contains k = true
    · rw [if_pos c]
      exact ⟨as', .un r', s.trans (List.sublist_append_right _ _)⟩
    · rw [if_neg c]
      have e := h 0 (by simpa using c)
      simp only [List.getElem?_cons_zero, Option.some.injEq] at e
      rw [e]
      exact ⟨a ++ as', .cons r0 r', List.Sublist.append (List.Sublist.refl _) s⟩
/-- own slots as they were ahead -/
theorem RepE.mix {G1 H1 G H : Hp} (own : List Nat) (hG : ∀ a o, G1 a = some o → G a = some o) : ∀ {σ σ2 : L2.St} {Γ1 Γ2 : Env} {as1 as : List Addr} (k : Nat), RepE K G1 H1 σ Γ1 as1 → RepE K G H σ2 Γ2 as → datE own k Γ1 = true → σ2.length = σ.length → (∀ j, (k + j) ∉ own → σ2[j]? = σ[j]?) →
    ∃ as', RepE K G H σ (mixE own k Γ1 Γ2) as' ∧ as'.Sublist as
  | [], σ2, _, Γ2, _, as, k, .nil, r2, _, hl, _ => by
    cases r2 with
    | nil => exact ⟨[], .nil, List.Sublist.refl _⟩
    | un _ => simp at hl
    | cons _ _ => simp at hl
  | x :: σ, σ2, s1 :: Γ1, Γ2, _, as, k, r1, r2, hd, hl, h => by
    unfold datE at hd
    obtain ⟨hd0, hd⟩ := Bool.and_eq_true_iff.mp hd
    -- the first slot, by the first environment
    obtain ⟨as1', r1'⟩ : ∃ as1', RepE K G1 H1 σ Γ1 as1' := by
      cases r1 with
      | un r => exact ⟨_, r⟩
      | cons _ r => exact ⟨_, r⟩
    cases r2 with
    | nil => simp at hl
    | un r2 =>
      rename_i y σ2 Γ2
      obtain ⟨as', r', s⟩ := RepE.mix own hG (k + 1) r1' r2 hd (by simpa using hl) (fun j hj => by have := h (j + 1) (by rw [show k + (j + 1) = k + 1 + j by omega]; exact hj); simpa using this)
      unfold mixE
      by_cases c : own.contains k = true
      · rw [if_pos c] at hd0 ⊢
        cases r1 with
        | un _ => exact ⟨as', .un r', s⟩
        | cons q0 _ =>
          cases q0 with
          | val hv => exact ⟨[] ++ as', .cons (.val (Dp_mono hG hv)) r', s⟩
          | lst _ _ => cases hd0
          | tup _ _ => cases hd0
      · rw [if_neg c]
        exact ⟨as', .un r', s⟩
    | cons q2 r2 =>
      rename_i v2 s2 a2 σ2 Γ2 as2
      obtain ⟨as', r', s⟩ := RepE.mix own hG (k + 1) r1' r2 hd (by simpa using hl) (fun j hj => by have := h (j + 1) (by rw [show k + (j + 1) = k + 1 + j by omega]; exact hj); simpa using this)
      unfold mixE
      by_cases c : own.contains k = true
      · rw [if_pos c] at hd0 ⊢
        cases r1 with
        | un _ => exact ⟨as', .un r', s.trans (List.sublist_append_right _ _)⟩
        | cons q0 _ =>
          cases q0 with
          | val hv => exact ⟨[] ++ as', .cons (.val (Dp_mono hG hv)) r', s.trans (List.sublist_append_right _ _)⟩
          | lst _ _ => cases hd0
          | tup _ _ => cases hd0
      · rw [if_neg c]
        have e := h 0 (by simpa using c)
        simp only [List.getElem?_cons_zero, Option.some.injEq] at e
        rw [← e]
        exact ⟨a2 ++ as', .cons q2 r', List.Sublist.append (List.Sublist.refl _) s⟩
end
end PyI

namespace PyI
open PySem PySem.Spec PyProof.Rows L2
theorem wipe_in {σ : L2.St} {j : Nat} : ∀ {vs : List Nat}, j ∈ vs → j < σ.length → (wipe σ vs)[j]? = some none
  | [], h, _ => by cases h
  | v :: vs, h, hl => by
    unfold wipe
    by_cases e : v = j
    · subst e
      rw [List.getElem?_set_self (by rw [wipe_length]; exact hl)]
    · rw [List.getElem?_set_ne e]
      exact wipe_in (by simpa [Ne.symm e] using h) hl
theorem wipe_ext {σ σ' : L2.St} {vs : List Nat} (hl : σ'.length = σ.length) (h : ∀ j, j ∉ vs → σ'[j]? = σ[j]?) : wipe σ' vs = wipe σ vs := by
  apply List.ext_getElem?
  intro j
  by_cases hj : j ∈ vs
  · by_cases hlt : j < σ.length
    · rw [wipe_in hj hlt, wipe_in hj (by omega)]
    · rw [List.getElem?_eq_none (by rw [wipe_length]; omega), List.getElem?_eq_none (by rw [wipe_length]; omega)]
  · rw [wipe_out hj, wipe_out hj, h j hj]
theorem wipe_wipe {σ : L2.St} {vs : List Nat} : wipe (wipe σ vs) vs = wipe σ vs := wipe_ext (wipe_length _ _) fun j hj => wipe_out hj
abbrev W0 : WX := fun _ _ _ _ => False
theorem lcL_len {g : PyData → Env → Res (Option PyData)} : ∀ {ds : List PyData} {Γ : Env} {l : List PyData} {Γ' : Env}, lcL g ds Γ = .ok l Γ' → l.length ≤ ds.length
  | [], _, _, _, h => by cases h; simp
  | d :: ds, Γ, l, Γ', h => by
    unfold lcL at h
    cases q : g d Γ with
    | no => rw [q] at h; cases h
    | ex _ _ _ => rw [q] at h; cases h
    | ok o Γ1 =>
      rw [q] at h
      simp only at h
      cases q2 : lcL g ds Γ1 with
      | no => rw [q2] at h; cases h
      | ex _ _ _ => rw [q2] at h; cases h
      | ok l2 Γ2 =>
        rw [q2] at h
        cases h
        have := lcL_len q2
        cases o <;> simp <;> omega
section
variable {K : PySem.W.Frag} {ca : Str → Addr} {W : WX}
theorem DpAll_append {G : Hp} : ∀ {vs ws : List V} {ds es : List PyData}, DpAll K G vs ds → DpAll K G ws es → DpAll K G (vs ++ ws) (ds ++ es)
  | _, _, _, _, .nil, h => h
  | _, _, _, _, .cons h r, q => .cons h (DpAll_append r q)
/-- an element into the new list at D -/
theorem elt_run {e : F} {σ : L2.St} {Γ : Env} {G H : Hp} {as : List Addr} {D : Addr} {acc : List V} {Nx : Hp → Prop} (r : RepE K G H σ Γ as) (g : Good G H as) (hD : H D = some (.lst acc)) (nD : G D = none) (nas : D ∉ as) (hz : acc.length < sizeLine) {x : PyData} {Γ' : Env} (he : elt1 e Γ = .ok (some x) Γ')
    (hN : ∀ y G' H' as', Dp K G' y x → RepE K G' H' σ Γ' as' → Good G' H' as' → Stp as G H G' H' as' → H' D = some (.lst acc) → G' D = none → D ∉ as' → Nx (upd H' D (.lst (acc ++ [y])))) :
    TEv K ca W0 e σ H fun y H4 => ∃ acc, H4 D = some (.lst acc) ∧ acc.length < sizeLine ∧ Nx (upd H4 D (.lst (acc ++ [y]))) := by
  refine ⟨Γ, G, as, r, g, ?_⟩
  unfold elt1 at he
  cases q : e Γ with
  | no => rw [q] at he; cases he
  | ex _ _ _ => rw [q] at he; cases he
  | ok s Γ2 =>
    rw [q] at he
    simp only [Res.bind] at he
    cases qz : s.fz with
    | none => rw [qz] at he; cases he
    | some x' =>
      rw [qz] at he
      cases he
      intro y G' H' av as' rs r' g' p
      have hD' : H' D = some (.lst acc) := p.kH D _ hD nas
      have nown : D ∉ av ++ as' := fun z => by
        rcases p.own D z with z | z
        · exact nas z
        · rw [hD] at z; cases z
      have nG' : G' D = none := p.nG D (by rw [hD]; simp) nas nD
      refine ⟨acc, hD', hz, hN y _ H' as' (rs.frz qz (fun _ z => z) (frz_kG g' (by simp +contextual))) (r'.frz g') g'.frz (p.frz g') hD' ?_ (fun z => nown (by simp [z]))⟩
      rw [frz_out (fun z => nown (by simp [z]))]
      exact nG'
theorem upd_self {H : Hp} {D : Addr} {o : HO} (h : H D = some o) : upd H D o = H := by
  funext b
  by_cases e : b = D
  · subst e; rw [upd_same, h]
  · rw [upd_ne e]
theorem upd_some {H : Hp} {D a : Addr} {o u : HO} (h : H a = some u) (n : a ≠ D) : upd H D o a = some u := by rw [upd_ne n]; exact h
/-- the new list changes: what else stands stays -/
theorem Good.put {G H : Hp} {as : List Addr} {D : Addr} {o : HO} (g : Good G H as) (nD : G D = none) (nas : D ∉ as) : Good G (upd H D o) as :=
  ⟨fun a u e => by rw [upd_ne (fun z => by subst z; rw [nD] at e; cases e)]; exact g.sub a u e, fun a z => ⟨(g.own a z).1, by rw [upd_ne (show a ≠ D from fun y => nas (by rw [← y]; exact z))]; exact (g.own a z).2⟩, g.nd⟩
theorem RepE.put {G H : Hp} {σ : L2.St} {Γ : Env} {as : List Addr} {D : Addr} {o : HO} (r : RepE K G H σ Γ as) (nas : D ∉ as) : RepE K G (upd H D o) σ Γ as :=
  r.car ⟨fun _ _ h => h, fun a z o e => upd_some e (fun y => nas (by rw [← y]; exact z))⟩
/-- behind i turns of a comprehension -/
def LcW (K : PySem.W.Frag) (own : List Nat) (σ : L2.St) (D : Addr) (G1 H1 : Hp) (as1 : List Addr) (g : PyData → Env → Res (Option PyData)) (ds l : List PyData) (Γ2 : Env) (i : Nat) (Hi : Hp) : Prop := i ≤ ds.length ∧ ∃ σi Γi Gi asi vs acc l', RepE K Gi Hi σi Γi asi ∧ Good Gi Hi asi ∧ σi.length = σ.length ∧ (∀ j, j ∉ own → σi[j]? = σ[j]?) ∧ Hi D = some (.lst vs) ∧ Gi D = none ∧ D ∉ asi ∧ DpAll K Gi vs acc ∧ acc.length ≤ i ∧
    lcL g (ds.drop i) Γi = .ok l' Γ2 ∧ acc ++ l' = l ∧ (∀ a o, H1 a = some o → a ∉ as1 → Hi a = some o) ∧ (∀ a o, G1 a = some o → Gi a = some o) ∧ (∀ a, H1 a ≠ none → a ∉ as1 → G1 a = none → Gi a = none) ∧ (∀ a ∈ asi, a ∈ as1 ∨ (H1 a = none)) ∧ (∀ a, H1 a ≠ none → Hi a ≠ none)
/-- a comprehension's reading -/
theorem comp_run {it : IF} {tg : Tg} {g : TG} {t : Option F} {tt : TT} {e : F} {own : List Nat} {σ : L2.St} {H : Hp} {Q : VK} (hg : TgOk K tg g) (ht : match t with
    | none => tt = tYes
    | some c => tt = TTv K ca W0 c) (hown : ∀ j ∈ tg.all, j ∈ own)
    (h : TEv K ca W (compF it tg t e own) σ H Q) : tLc (TIv K ca W it) g tt (TEv K ca W0 e) own σ H Q := by
  obtain ⟨Γ, G, as, r, gd, h⟩ := h
  refine ⟨Γ, G, as, r, gd, ?_⟩
  unfold compF at h
  cases q : it Γ with
  | no => rw [q] at h; exact h
  | ex c d Γ' => rw [q] at h; exact h
  | ok ds Γ1 =>
    rw [q] at h
    simp only [Res.bind] at h
    intro J G1 H1 as1 iok r1 g1 p1
    cases qd : datE own 0 Γ1 with
    | false => rw [qd] at h; exact h.elim
    | true =>
    rw [qd] at h
    cases ql : lcL (lcT tg t e own) ds Γ1 with
    | no => rw [ql] at h; exact h.elim
    | ex _ _ _ => rw [ql] at h; exact h.elim
    | ok l Γ2 =>
    rw [ql] at h
    have h : PostV K σ G H as (.lst l) (mixE own 0 Γ1 Γ2) Q := h
    have hll := lcL_len ql
    intro D hD
    have D1 : G1 D = none := by
      cases z : G1 D with
      | none => rfl
      | some o => rw [g1.sub D o z] at hD; cases hD
    have Das : D ∉ as1 := fun z => (g1.own D z).2 hD
    refine ⟨fun i m Hi => m = ds.length - i ∧ LcW K own σ D G1 H1 as1 (lcT tg t e own) ds l Γ2 i Hi,
      ⟨ds.length, by simp, Nat.zero_le _, σ, Γ1, G1, as1, [], [], l, r1.put Das, g1.put D1 Das, rfl, fun _ _ => rfl, upd_same, D1, Das, .nil, Nat.le_refl _, ql, rfl, fun a o e n => upd_some e (fun z => by subst z; rw [hD] at e; cases e), fun _ _ e => e, fun _ _ _ e => e, fun a z => .inl z, fun a z => by
        by_cases y : a = D
        · subst y; exact absurd hD z
        · rw [upd_ne y]; exact z⟩, ?_⟩
    rintro i m Hi ⟨rfl, hi, σi, Γi, Gi, asi, vs, acc, l', ri, gi, hlen, hσ, hDi, nDi, nasi, hacc, hal, hrest, hl, k1, k2, k3, k4, k5⟩
    have gG : ∀ a o, G1 a = some o → Gi a = some o := k2
    by_cases hlt : i < ds.length
    · obtain ⟨d, hd⟩ : ∃ d, ds[i]? = some d := ⟨ds[i], List.getElem?_eq_getElem hlt⟩
      obtain ⟨go, yl⟩ := iok.turn Gi Hi gG gi.sub i d hd
      have hdrop : ds.drop i = d :: ds.drop (i + 1) := by
        rw [List.drop_eq_getElem_cons hlt]
        congr 1
        rw [List.getElem?_eq_getElem hlt] at hd
        exact Option.some.inj hd
      rw [hdrop] at hrest
      unfold lcL at hrest
      cases qt : lcT tg t e own d Γi with
      | no => rw [qt] at hrest; cases hrest
      | ex _ _ _ => rw [qt] at hrest; cases hrest
      | ok o Γ3 =>
      rw [qt] at hrest
      simp only at hrest
      cases qr : lcL (lcT tg t e own) (ds.drop (i + 1)) Γ3 with
      | no => rw [qr] at hrest; cases hrest
      | ex _ _ _ => rw [qr] at hrest; cases hrest
      | ok l2 Γ4 =>
      rw [qr] at hrest
      have e1 : o.toList ++ l2 = l' ∧ Γ4 = Γ2 := by cases hrest; exact ⟨rfl, rfl⟩
      obtain ⟨e1, rfl⟩ := e1
      refine .inr ⟨go, fun H' => LcW K own σ D G1 H1 as1 (lcT tg t e own) ds l Γ4 (i + 1) H', fun H' h => ⟨ds.length - (i + 1), by omega, rfl, h⟩, fun x H' hy => ?_⟩
      obtain ⟨G', dx, g', p'⟩ := yl x H' hy
      -- the turn's environment
      obtain ⟨ash, rh, sh⟩ := (ri.car p'.car0).hide own (σ' := wipe σ own) 0 (by rw [wipe_length, hlen]) (fun j hj => by
        rw [Nat.zero_add] at hj
        rw [wipe_out hj, hσ j hj])
      have gi' : Good G' H' asi := gi.join (av := []) g' p'
      have gh : Good G' H' ash := gi'.subl sh
      unfold lcT at qt
      cases qs : setTg tg d (unE own 0 Γi) with
      | none => rw [qs] at qt; cases qt
      | some Γ5 =>
      rw [qs] at qt
      simp only at qt
      refine hg x d _ _ Γ5 G' H' ash _ rh gh dx qs fun σ2 as2 r2 s2 l2' k2' => ?_
      have hD' : H' D = some (.lst vs) := p'.kH D _ hDi (by simp)
      have nD' : G' D = none := p'.nG D (by rw [hDi]; simp) (by simp) nDi
      have nas2 : D ∉ as2 := fun z => nasi (sh.subset (s2.subset z))
      have g2 : Good G' H' as2 := gh.subl s2
      have agree : ∀ j, j ∉ own → σ2[j]? = σ[j]? := fun j hj => by
        rw [k2' j (fun z => hj (hown j z)), wipe_out hj]
      have hl2 : σ2.length = σ.length := by rw [l2', wipe_length]
      refine ⟨by
        rw [← wipe_wipe]
        exact wipe_ext (by rw [wipe_length, hl2]) fun j hj => by rw [wipe_out hj]; exact agree j hj, ?_⟩
      have hz : acc.length < sizeLine := Nat.lt_of_lt_of_le (Nat.lt_of_le_of_lt hal hlt) iok.sz
      have hzv : vs.length < sizeLine := by rw [DpAll_len hacc]; exact hz
      have pd : Stp asi Gi Hi G' H' as2 := ⟨fun a o e _ => p'.kH a o e (by simp), p'.kG, fun a h _ e => p'.nG a h (by simp) e, fun a z => .inl (sh.subset (s2.subset z)), p'.there⟩
      -- the next turn, from any state that the element leaves
      have nxt : ∀ (G5 H5 : Hp) (as5 : List Addr) (vs5 : List V) (acc5 : List PyData), RepE K G5 H5 σ2 Γ3 as5 → Good G5 H5 as5 → Stp as2 G' H' G5 H5 as5 → H5 D = some (.lst vs) → G5 D = none → D ∉ as5 → DpAll K G5 vs5 acc5 → acc5.length ≤ i + 1 → acc5 ++ l2 = l →
          ∀ H6, (H6 = upd H5 D (.lst vs5)) → LcW K own σ D G1 H1 as1 (lcT tg t e own) ds l Γ4 (i + 1) H6 := by
        intro G5 H5 as5 vs5 acc5 r5 g5 p5 hD5 nD5 nas5 ha5 hl5 hc5 H6 e6
        subst e6
        have pt := pd.trans p5
        have nin : ∀ a, H1 a ≠ none → a ∉ as1 → a ∉ asi := fun a h n z => by
          rcases k4 a z with z | z
          · exact n z
          · exact h z
        refine ⟨hlt, σ2, Γ3, G5, as5, vs5, acc5, l2, r5.put nas5, g5.put nD5 nas5, hl2, agree, upd_same, nD5, nas5, ha5, hl5, qr, hc5, fun a o e n => ?_, fun a o e => pt.kG a o (k2 a o e), fun a h n e => pt.nG a (k5 a h) (nin a h n) (k3 a h n e), fun a z => ?_, fun a h => ?_⟩
        · exact upd_some (pt.kH a o (k1 a o e n) (nin a (by rw [e]; simp) n)) (fun z => by subst z; rw [hD] at e; cases e)
        · rcases pt.own a z with z | z
          · exact k4 a z
          · by_cases y : H1 a = none
            · exact .inr y
            · exact absurd z (k5 a y)
        · by_cases y : a = D
          · subst y; exact absurd hD h
          · rw [upd_ne y]; exact pt.there a (k5 a h)
      cases t with
      | none =>
        have ht : tt = tYes := ht
        subst ht
        unfold tYes
        dsimp only
        rw [if_pos rfl]
        cases o with
        | none =>
          exfalso
          have qt : elt1 e Γ5 = .ok none Γ3 := qt
          unfold elt1 at qt
          cases qe : e Γ5 with
          | no => rw [qe] at qt; cases qt
          | ex _ _ _ => rw [qe] at qt; cases qt
          | ok s _ =>
            rw [qe] at qt
            simp only [Res.bind] at qt
            cases qz : s.fz <;> (rw [qz] at qt; cases qt)
        | some x1 =>
          refine elt_run (Nx := LcW K own σ D G1 H1 as1 (lcT tg none e own) ds l Γ4 (i + 1)) r2 g2 hD' nD' nas2 hzv qt fun y G5 H5 as5 dy r5 g5 p5 hD5 nD5 nas5 => ?_
          exact nxt G5 H5 as5 (vs ++ [y]) (acc ++ [x1]) r5 g5 p5 hD5 nD5 nas5 (DpAll_append (DpAll_mono (fun a o e => p5.kG a o (p'.kG a o e)) hacc) (.cons dy .nil)) (by simp; omega) (by rw [← hl, ← e1]; simp) _ rfl
      | some c =>
        have ht : tt = TTv K ca W0 c := ht
        subst ht
        have qt : ((c Γ5).bind fun s Γ2 => match s.bit with
          | some true => elt1 e Γ2
          | some false => Res.ok none Γ2
          | none => Res.no) = .ok o Γ3 := qt
        refine ⟨Γ5, G', as2, r2, g2, ?_⟩
        cases qc : c Γ5 with
        | no => rw [qc] at qt; cases qt
        | ex _ _ _ => rw [qc] at qt; cases qt
        | ok s Γ6 =>
        rw [qc] at qt
        simp only [Res.bind] at qt
        intro v G5 H5 av as5 rs r5 g5 p5
        have nown : D ∉ av ++ as5 := fun z => by
          rcases p5.own D z with z | z
          · exact nas2 z
          · rw [hD'] at z; cases z
        cases rs with
        | lst _ _ => cases qt
        | tup _ _ => cases qt
        | val hd =>
          cases hd with
          | non => cases qt
          | int _ => cases qt
          | str _ => cases qt
          | lst _ _ => cases qt
          | tup _ _ => cases qt
          | bl b =>
            refine ⟨b, rfl, ?_⟩
            have g5 : Good G5 H5 as5 := g5
            have p5 : Stp as2 G' H' G5 H5 as5 := p5
            have hD5 := p5.kH D _ hD' nas2
            have nD5 := p5.nG D (by rw [hD']; simp) nas2 nD'
            have nas5 : D ∉ as5 := nown
            cases b with
            | true =>
              refine L2.iteT ?_
              have qt : elt1 e Γ6 = .ok o Γ3 := qt
              cases o with
              | none =>
                exfalso
                unfold elt1 at qt
                cases qe : e Γ6 with
                | no => rw [qe] at qt; cases qt
                | ex _ _ _ => rw [qe] at qt; cases qt
                | ok s _ =>
                  rw [qe] at qt
                  simp only [Res.bind] at qt
                  cases qz : s.fz <;> (rw [qz] at qt; cases qt)
              | some x1 =>
                refine elt_run (Nx := LcW K own σ D G1 H1 as1 (lcT tg (some c) e own) ds l Γ4 (i + 1)) r5 g5 hD5 nD5 nas5 hzv qt fun y G6 H6 as6 dy r6 g6 p6 hD6 nD6 nas6 => ?_
                exact nxt G6 H6 as6 (vs ++ [y]) (acc ++ [x1]) r6 g6 (p5.trans p6) hD6 nD6 nas6 (DpAll_append (DpAll_mono (fun a o e => p6.kG a o (p5.kG a o (p'.kG a o e))) hacc) (.cons dy .nil)) (by simp; omega) (by rw [← hl, ← e1]; simp) _ rfl
            | false =>
              refine L2.iteF ?_
              have e2 : o = none ∧ Γ6 = Γ3 := by cases qt; exact ⟨rfl, rfl⟩
              obtain ⟨rfl, rfl⟩ := e2
              refine nxt G5 H5 as5 vs acc r5 g5 p5 hD5 nD5 nas5 (DpAll_mono (fun a o e => p5.kG a o (p'.kG a o e)) hacc) (by omega) (by rw [← hl, ← e1]; simp) _ ?_
              exact (upd_self hD5).symm
    · have e : i = ds.length := by omega
      subst e
      rw [List.drop_length] at hrest
      cases hrest
      rw [List.append_nil] at hl
      subst hl
      refine .inl ⟨iok.stop Gi Hi gG gi.sub, ?_⟩
      obtain ⟨as', r', s'⟩ := RepE.mix own gG 0 r1 ri qd hlen (fun j hj => hσ j (by simpa using hj))
      refine h (.ref D) Gi Hi [D] as' (.lst hDi hacc) r' ⟨gi.sub, fun a z => ?_, ?_⟩ (p1.trans ⟨k1, k2, k3, fun a z => ?_, k5⟩)
      · rcases List.mem_cons.mp z with z | z
        · subst z; exact ⟨nDi, by rw [hDi]; simp⟩
        · exact gi.own a (s'.subset z)
      · exact List.nodup_cons.mpr ⟨fun z => nasi (s'.subset z), s'.nodup gi.nd⟩
      · rcases List.mem_cons.mp z with z | z
        · subst z; exact .inr hD
        · exact k4 a (s'.subset z)
end
end PyI

namespace PyI
open PySem PySem.Spec PyProof.Rows L2

/-! ## statements -/
inductive Fl where
  | next (e : Env)
  | brk (e : Env)
  | cont (e : Env)
  | ret (s : Sl) (e : Env)
  | ex (c : Str) (d : PyData) (e : Env)
  | no
abbrev SF := Env → Fl
def seqS (x y : SF) : SF := fun Γ => match x Γ with
  | .next Γ' => y Γ'
  | r => r
def nextS : SF := fun Γ => .next Γ
def brkS : SF := fun Γ => .brk Γ
def contS : SF := fun Γ => .cont Γ
def noS : SF := fun _ => .no
def Res.fl {α : Type} (r : Res α) (k : α → Env → Fl) : Fl := match r with
  | .ok a Γ => k a Γ
  | .ex c d Γ => .ex c d Γ
  | .no => .no
def exprS (f : F) : SF := fun Γ => (f Γ).fl fun _ Γ' => .next Γ'
def retS (f : F) : SF := fun Γ => (f Γ).fl fun s Γ' => .ret s Γ'
def retNS : SF := fun Γ => .ret (.val .none) Γ
def setS (io : Bool) (i : Nat) (f : F) : SF := fun Γ => if (io && i == 0) = true then .no else (f Γ).fl fun s Γ' => .next (Γ'.set i s)
def seqOf : PyData → Option (List PyData)
  | .tuple ds => some ds
  | .list ds => some ds
  | _ => none
def unpS (io : Bool) (is : List Nat) (o : Opd) : SF := fun Γ => if (io && is.contains 0) = true then .no else (opsF [o] Γ).fl fun l Γ' => match rslv Γ' l with
  | some [d] => (match seqOf d with
    | some ds => (match setAll is ds Γ' with
      | some Γ2 => .next Γ2
      | none => .no)
    | none => .no)
  | _ => .no
/-- a, b = x, y -/
def parS (io : Bool) (i j : Nat) (a b : F) : SF := fun Γ => if (io && (i == 0 || j == 0)) = true then .no else (opsF [.ex a, .ex b] Γ).fl fun l Γ' => match rslv Γ' l with
  | some [x, y] => .next ((Γ'.set i (.val x)).set j (.val y))
  | _ => .no
def ifS (c : F) (x y : SF) : SF := fun Γ => (c Γ).fl fun s Γ' => match s.bit with
  | some true => x Γ'
  | some false => y Γ'
  | none => .no
def forL (tg : Tg) (b : SF) : List PyData → Env → Fl
  | [], Γ => .next Γ
  | d :: ds, Γ => match setTg tg d Γ with
    | none => .no
    | some Γ1 => match b Γ1 with
      | .next Γ2 => forL tg b ds Γ2
      | .cont Γ2 => forL tg b ds Γ2
      | .brk Γ2 => .next Γ2
      | .ret s Γ2 => .ret s Γ2
      | .ex c d Γ2 => .ex c d Γ2
      | .no => .no
def forS (io : Bool) (it : IF) (tg : Tg) (b : SF) : SF := fun Γ => if (io && tg.all.contains 0) = true then .no else (it Γ).fl fun ds Γ1 => forL tg b ds Γ1
def whL (c : F) (b : SF) : Nat → Env → Fl
  | 0, _ => .no
  | n + 1, Γ => (c Γ).fl fun s Γ1 => match s.bit with
    | some true => (match b Γ1 with
      | .next Γ2 => whL c b n Γ2
      | .cont Γ2 => whL c b n Γ2
      | .brk Γ2 => .next Γ2
      | .ret s Γ2 => .ret s Γ2
      | .ex c d Γ2 => .ex c d Γ2
      | .no => .no)
    | some false => .next Γ1
    | none => .no
/-- a mutating method of slot i's own list -/
def mutF (p : List PyData → List PyData → Option (PyData × List PyData)) (i : Nat) (os : List F) : F := fun Γ => match Γ[i]? with
  | some (.lst _) => (opsF (os.map .ex) Γ).bind fun l Γ' => (match rslv Γ' l, Γ'[i]? with
    | some ds, some (.lst xs) => (match p xs ds with
      | some (d, ys) => .ok (.val d) (Γ'.set i (.lst ys))
      | none => .no)
    | _, _ => .no)
  | _ => .no
/-- x[k] = v -/
def setIxS (i : Nat) (fk fv : F) : SF := fun Γ => match Γ[i]? with
  | some (.lst _) => (opsF [.ex fv, .ex fk] Γ).fl fun l Γ' => (match rslv Γ' l, Γ'[i]? with
    | some [d, .int k], some (.lst xs) => (match ixN xs.length k with
      | some j => .next (Γ'.set i (.lst (xs.set j d)))
      | none => .no)
    | _, _ => .no)
  | _ => .no

section
variable (K : PySem.W.Frag) (ca : Str → Addr) (W : WX) (io : Bool)
def Sl0 (σ σ' : L2.St) : Prop := io = true → σ'[0]? = σ[0]?
def PostN (σ : L2.St) (G H : Hp) (as : List Addr) (Γ' : Env) (Q : L2.St → Hp → Prop) : Prop := ∀ σ' G' H' as', RepE K G' H' σ' Γ' as' → Good G' H' as' → Stp as G H G' H' as' → Sl0 io σ σ' → Q σ' H'
def PostR (σ : L2.St) (G H : Hp) (as : List Addr) (s : Sl) (Γ' : Env) (Q : VK) : Prop := ∀ v σ' G' H' av as', RepS K G' H' v s av → RepE K G' H' σ' Γ' as' → Good G' H' (av ++ as') → Stp as G H G' H' (av ++ as') → Sl0 io σ σ' → Q v H'
def PostE (σ : L2.St) (G H : Hp) (as : List Addr) (c : Str) (d : PyData) (Γ' : Env) : Prop := ∀ cls dd σ' G' H' as', RepE K G' H' σ' Γ' as' → Good G' H' as' → Stp as G H G' H' as' → Sl0 io σ σ' → XRep K ca G' H' cls dd c d → W cls dd σ' H'
def PostF (D : Ends) (σ : L2.St) (G H : Hp) (as : List Addr) : Fl → Prop
  | .next Γ' => PostN K io σ G H as Γ' D.nx
  | .brk Γ' => PostN K io σ G H as Γ' D.bk
  | .cont Γ' => PostN K io σ G H as Γ' D.ct
  | .ret s Γ' => PostR K io σ G H as s Γ' D.rt
  | .ex c d Γ' => PostE K ca W io σ G H as c d Γ'
  | .no => False
def TSv (x : SF) : TS := fun D σ H => ∃ Γ G as, RepE K G H σ Γ as ∧ Good G H as ∧ PostF K ca W io D σ G H as (x Γ)
end
section
variable {K : PySem.W.Frag} {ca : Str → Addr} {W : WX} {io : Bool}
theorem Sl0.refl (σ : L2.St) : Sl0 io σ σ := fun _ => rfl
theorem Sl0.trans {σ σ1 σ2 : L2.St} (a : Sl0 io σ σ1) (b : Sl0 io σ1 σ2) : Sl0 io σ σ2 := fun h => (b h).trans (a h)
theorem PostF.step {D : Ends} {σ σ1 : L2.St} {G H G1 H1 : Hp} {as as1 : List Addr} {r : Fl} (h : PostF K ca W io D σ G H as r) (p : Stp as G H G1 H1 as1) (s : Sl0 io σ σ1) : PostF K ca W io D σ1 G1 H1 as1 r := by
  cases r with
  | next Γ' => exact fun σ' G' H' as' r g q z => h σ' G' H' as' r g (p.trans q) (s.trans z)
  | brk Γ' => exact fun σ' G' H' as' r g q z => h σ' G' H' as' r g (p.trans q) (s.trans z)
  | cont Γ' => exact fun σ' G' H' as' r g q z => h σ' G' H' as' r g (p.trans q) (s.trans z)
  | ret s' Γ' => exact fun v σ' G' H' av as' rs r g q z => h v σ' G' H' av as' rs r g (p.trans q) (s.trans z)
  | ex c d Γ' => exact fun cls dd σ' G' H' as' r g q z x => h cls dd σ' G' H' as' r g (p.trans q) (s.trans z) x
  | no => exact h
theorem PostF.ends {D D' : Ends} {σ : L2.St} {G H : Hp} {as : List Addr} {r : Fl} (h : PostF K ca W io D σ G H as r) (h1 : ∀ σ H, D.nx σ H → D'.nx σ H) (h2 : ∀ v H, D.rt v H → D'.rt v H) (h3 : ∀ σ H, D.bk σ H → D'.bk σ H) (h4 : ∀ σ H, D.ct σ H → D'.ct σ H) : PostF K ca W io D' σ G H as r := by
  cases r with
  | next Γ' => exact fun σ' G' H' as' r g q z => h1 _ _ (h σ' G' H' as' r g q z)
  | brk Γ' => exact fun σ' G' H' as' r g q z => h3 _ _ (h σ' G' H' as' r g q z)
  | cont Γ' => exact fun σ' G' H' as' r g q z => h4 _ _ (h σ' G' H' as' r g q z)
  | ret s' Γ' => exact fun v σ' G' H' av as' rs r g q z => h2 _ _ (h v σ' G' H' av as' rs r g q z)
  | ex c d Γ' => exact h
  | no => exact h
/-- an expression ahead of a statement's end -/
theorem fl_run {f : F} {k : Sl → Env → Fl} {D : Ends} {σ : L2.St} {H : Hp} {Q : VK} (h : TSv K ca W io (fun Γ => (f Γ).fl k) D σ H)
    (hk : ∀ s Γ' v G' H' av as', RepS K G' H' v s av → RepE K G' H' σ Γ' as' → Good G' H' (av ++ as') → PostF K ca W io D σ G' H' (av ++ as') (k s Γ') → Q v H') : TEv K ca W f σ H Q := by
  obtain ⟨Γ, G, as, r, g, h⟩ := h
  refine ⟨Γ, G, as, r, g, ?_⟩
  revert h
  dsimp only
  cases f Γ with
  | no => exact id
  | ex c d e => exact fun h cls dd G' H' as' r g q x => h cls dd σ G' H' as' r g q (.refl _) x
  | ok s e => exact fun h v G' H' av as' r1 r2 g1 p => hk s e v G' H' av as' r1 r2 g1 (PostF.step h p (.refl _))
theorem RepE.set {G H : Hp} : ∀ {σ : L2.St} {Γ : Env} {as : List Addr} {v : V} {s : Sl} {av : List Addr} (i : Nat), RepE K G H σ Γ as → RepS K G H v s av → (av ++ as).Nodup → ∃ as', RepE K G H (σ.set i (some v)) (Γ.set i s) as' ∧ (∀ a ∈ as', a ∈ av ++ as) ∧ as'.Nodup
  | _, _, _, v, s, av, i, .nil, h, n => ⟨[], by simpa using RepE.nil, by simp, .nil⟩
  | _, _, _, v, s, av, 0, .un (as := as) r, h, n => ⟨av ++ as, .cons h r, fun _ z => z, n⟩
  | _, _, _, v, s, av, 0, .cons (a := a) (as := as) _ r, h, n => ⟨av ++ as, .cons h r, fun b z => by
      rcases List.mem_append.mp z with z | z <;> simp [z], by
      obtain ⟨n1, n2, n3⟩ := List.nodup_append.mp n
      obtain ⟨n4, n5, n6⟩ := List.nodup_append.mp n2
      exact List.nodup_append.mpr ⟨n1, n5, fun a ha b hb => n3 a ha b (by simp [hb])⟩⟩
  | _, _, _, v, s, av, i + 1, .un r, h, n => by
    obtain ⟨as', r', q, m⟩ := RepE.set i r h n
    exact ⟨as', .un r', q, m⟩
  | _, _, _, v, s, av, i + 1, .cons (a := a) (as := as) r0 r, h, n => by
    obtain ⟨n1, n2, n3⟩ := List.nodup_append.mp n
    obtain ⟨n4, n5, n6⟩ := List.nodup_append.mp n2
    obtain ⟨as', r', q, m⟩ := RepE.set i r h (List.nodup_append.mpr ⟨n1, n5, fun a ha b hb => n3 a ha b (by simp [hb])⟩)
    refine ⟨a ++ as', .cons r0 r', fun b z => ?_, List.nodup_append.mpr ⟨n4, m, fun x hx y hy e => ?_⟩⟩
    · rcases List.mem_append.mp z with z | z
      · simp [z]
      · rcases List.mem_append.mp (q b z) with z | z <;> simp [z]
    · subst e
      rcases List.mem_append.mp (q x hy) with z | z
      · exact n3 x z x (by simp [hx]) rfl
      · exact n6 x hx x z rfl
theorem sl0_set {σ : L2.St} {i : Nat} {x : Option V} (h : ¬ (io && i == 0) = true) : Sl0 io σ (σ.set i x) := fun e => by
  rw [List.getElem?_set_ne]
  intro z
  subst z
  exact h (by rw [e]; rfl)
theorem set_run {i : Nat} {f : F} {D : Ends} {σ : L2.St} {H : Hp} (h : TSv K ca W io (setS io i f) D σ H) : tAsg (TEv K ca W f) (gName i) D σ H := by
  by_cases c : (io && i == 0) = true
  · obtain ⟨Γ, G, as, r, g, h⟩ := h
    unfold setS at h
    rw [if_pos c] at h
    exact h.elim
  · have e : setS io i f = fun Γ => (f Γ).fl fun s Γ' => .next (Γ'.set i s) := by funext Γ; unfold setS; rw [if_neg c]
    rw [e] at h
    refine fl_run h fun s Γ' v G' H' av as' rs r g p => ?_
    obtain ⟨as2, r2, q, m⟩ := r.set i rs g.nd
    exact p _ G' H' as2 r2 (g.sub' q m) ((Stp.refl _ _ _).less q) (sl0_set c)
theorem expr_run {f : F} {D : Ends} {σ : L2.St} {H : Hp} (h : TSv K ca W io (exprS f) D σ H) : tDrop (TEv K ca W f) D σ H :=
  fl_run h fun s Γ' v G' H' av as' rs r g p => p _ G' H' as' r (g.sub' (by simp +contextual) (List.nodup_append.mp g.nd).2.1) ((Stp.refl _ _ _).less (by simp +contextual)) (.refl _)
theorem ret_run {f : F} {D : Ends} {σ : L2.St} {H : Hp} (h : TSv K ca W io (retS f) D σ H) : tRet (TEv K ca W f) D σ H :=
  fl_run h fun s Γ' v G' H' av as' rs r g p => p v _ G' H' av as' rs r g (.refl _ _ _) (.refl _)
theorem retN_run {D : Ends} {σ : L2.St} {H : Hp} (h : TSv K ca W io retNS D σ H) : tRetN D σ H := by
  obtain ⟨Γ, G, as, r, g, h⟩ := h
  exact h .non σ G H [] as (.val .non) r g (.refl _ _ _) (.refl _)
theorem next_run {D : Ends} {σ : L2.St} {H : Hp} (h : TSv K ca W io nextS D σ H) : tNext D σ H := by
  obtain ⟨Γ, G, as, r, g, h⟩ := h
  exact h σ G H as r g (.refl _ _ _) (.refl _)
theorem brk_run {D : Ends} {σ : L2.St} {H : Hp} (h : TSv K ca W io brkS D σ H) : tBreak D σ H := by
  obtain ⟨Γ, G, as, r, g, h⟩ := h
  exact h σ G H as r g (.refl _ _ _) (.refl _)
theorem cont_run {D : Ends} {σ : L2.St} {H : Hp} (h : TSv K ca W io contS D σ H) : tCont D σ H := by
  obtain ⟨Γ, G, as, r, g, h⟩ := h
  exact h σ G H as r g (.refl _ _ _) (.refl _)
theorem seq_run {x y : SF} {D : Ends} {σ : L2.St} {H : Hp} (h : TSv K ca W io (seqS x y) D σ H) : tSeq (TSv K ca W io x) (TSv K ca W io y) D σ H := by
  obtain ⟨Γ, G, as, r, g, h⟩ := h
  refine ⟨Γ, G, as, r, g, ?_⟩
  unfold seqS at h
  revert h
  cases x Γ with
  | next Γ' => exact fun h σ' G' H' as' r' g' p s => ⟨Γ', G', as', r', g', h.step p s⟩
  | brk Γ' => exact id
  | cont Γ' => exact id
  | ret s' Γ' => exact id
  | ex c d Γ' => exact id
  | no => exact id
theorem if_run {c : F} {x y : SF} {D : Ends} {σ : L2.St} {H : Hp} (h : TSv K ca W io (ifS c x y) D σ H) : tIfS (TTv K ca W c) (TSv K ca W io x) (TSv K ca W io y) D σ H := by
  refine fl_run h fun s Γ' v G' H' av as' rs r g p => ?_
  cases rs with
  | lst _ _ => exact p.elim
  | tup _ _ => exact p.elim
  | val hd =>
    cases hd with
    | non => exact p.elim
    | int _ => exact p.elim
    | str _ => exact p.elim
    | lst _ _ => exact p.elim
    | tup _ _ => exact p.elim
    | bl b =>
      refine ⟨b, rfl, ?_⟩
      cases b with
      | true => exact L2.iteT ⟨Γ', G', as', r, g, p⟩
      | false => exact L2.iteF ⟨Γ', G', as', r, g, p⟩
/-- a, b = e -/
theorem tup_or {is : List Nat} {n : Nat} {G H : Hp} {v : V} {d : PyData} {ds : List PyData} {σ : L2.St} {Γ Γ' : Env} {as : List Addr} {Q : L2.St → Hp → Prop} (hn : n = is.length) (hv : RepP K G H v d) (hd : seqOf d = some ds) (r : RepE K G H σ Γ as) (g : Good G H as) (e : setAll is ds Γ = some Γ')
    (q : ∀ σ' as', RepE K G H σ' Γ' as' → as'.Sublist as → σ'.length = σ.length → (∀ j, j ∉ is → σ'[j]? = σ[j]?) → Q σ' H) :
    gTup K n (is.foldr (fun i t => gCons (gName i) t) gNil) v σ H Q ∨ gLst K n (is.foldr (fun i t => gCons (gName i) t) gNil) v σ H Q := by
  rcases hv with hv | ⟨a, vs, ds', rfl, rfl, h1, h2⟩
  · cases d with
    | tuple ds' =>
      cases hd
      obtain ⟨a, vs, rfl, h1, h2⟩ := dp_tup hv
      exact .inl ⟨a, vs, rfl, seqT_mono g.sub h1, by rw [hn, DpAll_len h2, setAll_len e], tup_all is r h2 e q⟩
    | list ds' =>
      cases hd
      obtain ⟨a, vs, rfl, h1, h2⟩ := dp_lst hv
      exact .inr ⟨a, vs, rfl, seqL_mono g.sub h1, by rw [hn, DpAll_len h2, setAll_len e], tup_all is r h2 e q⟩
    | none => cases hd
    | bool _ => cases hd
    | int _ => cases hd
    | str _ => cases hd
    | dict _ => cases hd
  · cases hd
    exact .inr ⟨a, vs, rfl, .inl (.inl h1), by rw [hn, DpAll_len h2, setAll_len e], tup_all is r h2 e q⟩
theorem ops_fl {os : List Opd} {k : List (Nat ⊕ PyData) → Env → Fl} {D : Ends} {σ : L2.St} {H : Hp} {Q : List V → Hp → Prop} (h : TSv K ca W io (fun Γ => (opsF os Γ).fl k) D σ H)
    (hk : ∀ l Γ' vs G' H' as', (∃ Γ0, opsF os Γ0 = .ok l Γ') → Pend K G' σ vs l → RepE K G' H' σ Γ' as' → Good G' H' as' → PostF K ca W io D σ G' H' as' (k l Γ') → Q vs H') : taOs K ca W os σ H Q := by
  obtain ⟨Γ, G, as, r, g, h⟩ := h
  refine ops_run os r g ?_
  revert h
  dsimp only
  cases q0 : opsF os Γ with
  | no => exact id
  | ex c d e => exact fun h cls dd G' H' as' r g q x => h cls dd σ G' H' as' r g q (.refl _) x
  | ok l Γ' => exact fun h vs G' H' as' pn r' g' p => hk l Γ' vs G' H' as' ⟨Γ, q0⟩ pn r' g' (PostF.step h p (.refl _))
theorem unp_run {is : List Nat} {n : Nat} {o : Opd} {D : Ends} {σ : L2.St} {H : Hp} (hn : n = is.length) (h : TSv K ca W io (unpS io is o) D σ H) :
    tAsg (tOpd K ca W o) (fun v σ H Q => gTup K n (is.foldr (fun i t => gCons (gName i) t) gNil) v σ H Q ∨ gLst K n (is.foldr (fun i t => gCons (gName i) t) gNil) v σ H Q) D σ H := by
  by_cases c : (io && is.contains 0) = true
  · obtain ⟨Γ, G, as, r, g, h⟩ := h
    unfold unpS at h
    rw [if_pos c] at h
    exact h.elim
  · have e : unpS io is o = fun Γ => (opsF [o] Γ).fl fun l Γ' => match rslv Γ' l with
      | some [d] => (match seqOf d with
        | some ds => (match setAll is ds Γ' with
          | some Γ2 => .next Γ2
          | none => .no)
        | none => .no)
      | _ => .no := by funext Γ; unfold unpS; rw [if_neg c]
    rw [e] at h
    have z := ops_fl (Q := fun vs H' => match vs with
      | [x] => gTup K n (is.foldr (fun i t => gCons (gName i) t) gNil) x σ H' D.nx ∨ gLst K n (is.foldr (fun i t => gCons (gName i) t) gNil) x σ H' D.nx
      | _ => False) h fun l Γ' vs G' H' as' _ pn r g p => by
        cases q1 : rslv Γ' l with
        | none => rw [q1] at p; exact p.elim
        | some ds =>
          have rp := pend_rslv r pn q1
          rw [q1] at p
          cases rp with
          | nil => exact p.elim
          | cons r0 rr =>
            cases rr with
            | cons _ _ => exact p.elim
            | nil =>
              rename_i x d
              dsimp only at p ⊢
              cases q2 : seqOf d with
              | none => rw [q2] at p; exact p.elim
              | some ds =>
                rw [q2] at p
                dsimp only at p
                cases q3 : setAll is ds Γ' with
                | none => rw [q3] at p; exact p.elim
                | some Γ2 =>
                  rw [q3] at p
                  exact tup_or hn r0 q2 r g q3 fun σ' as2 r2 s2 l2 k2 => p σ' G' H' as2 r2 (g.subl s2) ((Stp.refl _ _ _).less fun a z => s2.subset z) fun e => k2 0 fun z => c (by rw [e]; simp [z])
    exact z
theorem par_run {i j : Nat} {a b : F} {D : Ends} {σ : L2.St} {H : Hp} (h : TSv K ca W io (parS io i j a b) D σ H) : tPar i j (taOs K ca W [.ex a, .ex b]) D σ H := by
  by_cases c : (io && (i == 0 || j == 0)) = true
  · obtain ⟨Γ, G, as, r, g, h⟩ := h
    unfold parS at h
    rw [if_pos c] at h
    exact h.elim
  · have e : parS io i j a b = fun Γ => (opsF [.ex a, .ex b] Γ).fl fun l Γ' => match rslv Γ' l with
      | some [x, y] => .next ((Γ'.set i (.val x)).set j (.val y))
      | _ => .no := by funext Γ; unfold parS; rw [if_neg c]
    rw [e] at h
    refine ops_fl h fun l Γ' vs G' H' as' ⟨Γ0, q0⟩ pn r g p => ?_
    cases q1 : rslv Γ' l with
    | none => rw [q1] at p; exact p.elim
    | some ds =>
      obtain ⟨da, dl⟩ := pend_ex (os := [a, b]) pn q1 ⟨Γ', q0⟩
      rw [q1] at p
      cases da with
      | nil => exact p.elim
      | cons hx da =>
        cases da with
        | nil => exact p.elim
        | cons hy da =>
          cases da with
          | cons _ _ => exact p.elim
          | nil =>
            refine ⟨_, _, rfl, ?_⟩
            obtain ⟨as2, ra, sa⟩ := r.set1 i hx
            obtain ⟨as3, rb, sb⟩ := ra.set1 j hy
            refine p _ G' H' as3 rb (g.subl (sb.trans sa)) ((Stp.refl _ _ _).less fun a z => (sb.trans sa).subset z) fun e => ?_
            rw [e] at c
            simp only [Bool.true_and, Bool.or_eq_true, beq_iff_eq, not_or] at c
            rw [List.getElem?_set_ne c.2, List.getElem?_set_ne c.1]
/-! loops -/
def ForW (K : PySem.W.Frag) (io : Bool) (tg : Tg) (b : SF) (ds : List PyData) (R : Fl) (σ0 : L2.St) (G0 H0 : Hp) (as0 : List Addr) (i : Nat) (σ : L2.St) (H : Hp) : Prop := i ≤ ds.length ∧ ∃ Γ G as, RepE K G H σ Γ as ∧ Good G H as ∧ Stp as0 G0 H0 G H as ∧ Sl0 io σ0 σ ∧ forL tg b (ds.drop i) Γ = R
theorem for_run {it : IF} {tg : Tg} {g : TG} {b : SF} {D : Ends} {σ : L2.St} {H : Hp} (hg : TgOk K tg g) (h : TSv K ca W io (forS io it tg b) D σ H) : tFor (TIv K ca W it) g (TSv K ca W io b) D σ H := by
  obtain ⟨Γ, G, as, r, gd, h⟩ := h
  unfold forS at h
  by_cases c : (io && tg.all.contains 0) = true
  · rw [if_pos c] at h; exact h.elim
  rw [if_neg c] at h
  refine ⟨Γ, G, as, r, gd, ?_⟩
  cases q : it Γ with
  | no => rw [q] at h; exact h
  | ex c d Γ' => rw [q] at h; exact fun cls dd G' H' as' r g q x => h cls dd σ G' H' as' r g q (.refl _) x
  | ok ds Γ1 =>
    rw [q] at h
    intro J G1 H1 as1 iok r1 g1 p1
    have h : PostF K ca W io D σ G H as (forL tg b ds Γ1) := h
    generalize hRR : forL tg b ds Γ1 = R at h
    refine ⟨fun i m σ' H' => m = ds.length - i ∧ ForW K io tg b ds R σ G1 H1 as1 i σ' H', ⟨ds.length, by simp, Nat.zero_le _, Γ1, G1, as1, r1, g1, .refl _ _ _, .refl _, hRR⟩, ?_⟩
    rintro i m σi Hi ⟨rfl, hi, Γi, Gi, asi, ri, gi, pi, si, hR⟩
    by_cases hlt : i < ds.length
    · obtain ⟨d, hd⟩ : ∃ d, ds[i]? = some d := ⟨ds[i], List.getElem?_eq_getElem hlt⟩
      obtain ⟨go, yl⟩ := iok.turn Gi Hi pi.kG gi.sub i d hd
      have hdrop : ds.drop i = d :: ds.drop (i + 1) := by
        rw [List.drop_eq_getElem_cons hlt]
        congr 1
        rw [List.getElem?_eq_getElem hlt] at hd
        exact Option.some.inj hd
      rw [hdrop] at hR
      unfold forL at hR
      refine .inr ⟨go, ForW K io tg b ds R σ G1 H1 as1 (i + 1), fun σ' H' w => ⟨ds.length - (i + 1), by omega, rfl, w⟩, fun x H' hy => ?_⟩
      obtain ⟨G', dx, g', p'⟩ := yl x H' hy
      have gi' : Good G' H' asi := gi.join (av := []) g' p'
      have h' := PostF.step h p1 (.refl _)
      rw [← hR] at h'
      cases qs : setTg tg d Γi with
      | none => rw [qs] at h'; exact h'.elim
      | some Γ5 =>
      refine hg x d _ _ Γ5 G' H' asi _ (ri.car p'.car0) gi' dx qs fun σ2 as2 r2 s2 l2 k2 => ?_
      have g2 : Good G' H' as2 := gi'.subl s2
      have pd : Stp as1 G1 H1 G' H' as2 := pi.trans ⟨fun a o e _ => p'.kH a o e (by simp), p'.kG, fun a h _ e => p'.nG a h (by simp) e, fun a z => .inl (s2.subset z), p'.there⟩
      have s02 : Sl0 io σ σ2 := si.trans fun e => k2 0 fun z => c (by rw [e]; simp [z])
      refine ⟨Γ5, G', as2, r2, g2, ?_⟩
      rw [qs] at h' hR
      dsimp only at h' hR
      have h2 := h'.step pd s02
      have nxt : ∀ Γ6, forL tg b (ds.drop (i + 1)) Γ6 = R → PostN K io σ2 G' H' as2 Γ6 (ForW K io tg b ds R σ G1 H1 as1 (i + 1)) := fun Γ6 e σ' G6 H6 as6 r6 g6 p6 s6 =>
        ⟨hlt, Γ6, G6, as6, r6, g6, pd.trans p6, s02.trans s6, e⟩
      cases qb : b Γ5 with
      | no => rw [qb] at h2; exact h2.elim
      | ex cc dd Γ6 => rw [qb] at h2; exact h2
      | ret s Γ6 => rw [qb] at h2; exact h2
      | brk Γ6 => rw [qb] at h2; exact h2
      | next Γ6 => rw [qb] at hR; exact nxt Γ6 hR
      | cont Γ6 => rw [qb] at hR; exact nxt Γ6 hR
    · have e : i = ds.length := by omega
      subst e
      rw [List.drop_length] at hR
      refine .inl ⟨iok.stop Gi Hi pi.kG gi.sub, ?_⟩
      rw [← hR] at h
      exact h σi Gi Hi asi ri gi (p1.trans pi) si
theorem while_run {c : F} {b : SF} {n : Nat} {D : Ends} {σ : L2.St} {H : Hp} (h : TSv K ca W io (whL c b n) D σ H) : tWhile (TTv K ca W c) (TSv K ca W io b) D σ H := by
  refine ⟨fun n σ H => TSv K ca W io (whL c b n) D σ H, ⟨n, h⟩, fun m σ H h => ?_⟩
  cases m with
  | zero => obtain ⟨Γ, G, as, r, g, h⟩ := h; exact h.elim
  | succ m =>
    refine fl_run h fun s Γ' v G' H' av as' rs r g p => ?_
    cases rs with
    | lst _ _ => exact p.elim
    | tup _ _ => exact p.elim
    | val hd =>
      cases hd with
      | non => exact p.elim
      | int _ => exact p.elim
      | str _ => exact p.elim
      | lst _ _ => exact p.elim
      | tup _ _ => exact p.elim
      | bl k =>
        refine ⟨k, rfl, ?_⟩
        cases k with
        | false => exact L2.iteF (p σ G' H' as' r g (.refl _ _ _) (.refl _))
        | true =>
          rw [if_pos rfl]
          refine ⟨fun σ' H' => TSv K ca W io (whL c b m) D σ' H', fun σ' H' w => ⟨m, Nat.lt_succ_self m, w⟩, Γ', G', as', r, g, ?_⟩
          have p : PostF K ca W io D σ G' H' as' (match b Γ' with
            | .next Γ2 => whL c b m Γ2
            | .cont Γ2 => whL c b m Γ2
            | .brk Γ2 => .next Γ2
            | .ret s Γ2 => .ret s Γ2
            | .ex c d Γ2 => .ex c d Γ2
            | .no => .no) := p
          cases qb : b Γ' with
          | no => rw [qb] at p; exact p.elim
          | ex cc dd Γ6 => rw [qb] at p; exact p
          | ret s Γ6 => rw [qb] at p; exact p
          | brk Γ6 => rw [qb] at p; exact p
          | next Γ6 => rw [qb] at p; exact fun σ' G6 H6 as6 r6 g6 p6 s6 => ⟨Γ6, G6, as6, r6, g6, p.step p6 s6⟩
          | cont Γ6 => rw [qb] at p; exact fun σ' G6 H6 as6 r6 g6 p6 s6 => ⟨Γ6, G6, as6, r6, g6, p.step p6 s6⟩
end
end PyI

namespace PyI
open PySem PySem.Spec PyProof.Rows L2

/-! ## mutating methods, stores, chains, defs -/
/-- what a mutating method does to a list of data -/
def MutR (K : PySem.W.Frag) (p : List PyData → List PyData → Option (PyData × List PyData)) : V → List V → Hp → VK → Prop := fun x vs H Q => ∃ l xs G dxs ds d ys, x = .ref l ∧ H l = some (.lst xs) ∧ (∀ a o, G a = some o → H a = some o) ∧ DpAll K G xs dxs ∧ DpAll K G vs ds ∧ p dxs ds = some (d, ys) ∧
  ∀ v ws, Dp K G v d → DpAll K G ws ys → Q v (upd H l (.lst ws))
section
variable {K : PySem.W.Frag} {ca : Str → Addr} {W : WX} {io : Bool}
/-- slot i's own list is changed at the end -/
theorem own_put {i : Nat} {σ : L2.St} {Γ : Env} {G H : Hp} {as : List Addr} {xs ys : List PyData} {v : V} (r : RepE K G H σ Γ as) (g : Good G H as) (e : Γ[i]? = some (.lst xs)) (hv : σ[i]? = some (some v)) :
    ∃ l vs, v = .ref l ∧ H l = some (.lst vs) ∧ DpAll K G vs xs ∧ ∀ ws, DpAll K G ws ys → RepE K G (upd H l (.lst ws)) σ (Γ.set i (.lst ys)) as ∧ Good G (upd H l (.lst ws)) as ∧ Stp as G H G (upd H l (.lst ws)) as := by
  have hl : i < Γ.length := by
    by_cases z : i < Γ.length
    · exact z
    · rw [List.getElem?_eq_none (by omega)] at e; cases e
  obtain ⟨pre, a0, post, e1, fr, kr⟩ := r.at hl
  obtain ⟨v', hv', rs⟩ := fr _ e (fun z => nomatch z)
  rw [hv] at hv'
  cases hv'
  cases rs with
  | lst h1 h2 =>
    rename_i a vs
    have ha : a ∈ as := by rw [e1]; simp
    refine ⟨a, vs, rfl, h1, h2, fun ws hw => ⟨?_, ?_, ?_⟩⟩
    · have nd := g.nd
      rw [e1] at nd ⊢
      have z := kr G (upd H a (.lst ws)) ⟨fun _ _ q => q, fun b hb o q => upd_some q fun y => ?_⟩ (.ref a) (.lst ys) [a] (.lst upd_same hw)
      · rw [set_same hv] at z
        exact z
      · subst y
        obtain ⟨n1, n2, n3⟩ := List.nodup_append.mp nd
        obtain ⟨n4, n5, n6⟩ := List.nodup_append.mp n2
        rcases List.mem_append.mp hb with hb | hb
        · exact n3 b hb b (by simp) rfl
        · exact n6 b (by simp) b hb rfl
    · refine ⟨fun b o q => ?_, fun b z => ⟨(g.own b z).1, ?_⟩, g.nd⟩
      · rw [upd_ne fun y => by subst y; rw [(g.own b ha).1] at q; cases q]
        exact g.sub b o q
      · by_cases y : b = a
        · subst y; rw [upd_same]; simp
        · rw [upd_ne y]; exact (g.own b z).2
    · refine ⟨fun b o q n => upd_some q fun y => n (by rw [y]; exact ha), fun _ _ q => q, fun _ _ _ q => q, fun _ z => .inl z, fun b q => ?_⟩
      by_cases y : b = a
      · subst y; rw [upd_same]; simp
      · rw [upd_ne y]; exact q
theorem mut_run {p : List PyData → List PyData → Option (PyData × List PyData)} {i : Nat} {os : List F} {σ : L2.St} {H : Hp} {Q : VK} (h : TEv K ca W (mutF p i os) σ H Q) :
    tBM K "list" (MutR K p) (tVar i) (taOs K ca W (os.map .ex)) σ H Q := by
  obtain ⟨Γ, G, as, r, g, h⟩ := h
  unfold mutF at h
  cases q0 : Γ[i]? with
  | none => rw [q0] at h; exact h.elim
  | some s =>
    rw [q0] at h
    cases s with
    | un => exact h.elim
    | val _ => exact h.elim
    | tup _ => exact h.elim
    | lst xs0 =>
      obtain ⟨v0, _, hv0, rs0, _⟩ := r.val q0 (fun z => nomatch z)
      refine ⟨v0, hv0, ?_, ?_⟩
      · cases rs0 with
        | lst h1 h2 => exact .inl ⟨rfl, _, .inl (.inl h1)⟩
      · refine ops_run _ r g ?_
        dsimp only at h
        cases q : opsF (os.map .ex) Γ with
        | no => rw [q] at h; exact h
        | ex c d Γ' => rw [q] at h; exact h
        | ok l Γ' =>
          rw [q] at h
          simp only [Res.bind] at h
          intro vs G' H' as' pn r' g' st
          cases q1 : rslv Γ' l with
          | none => rw [q1] at h; exact h.elim
          | some ds =>
            rw [q1] at h
            cases q3 : Γ'[i]? with
            | none => rw [q3] at h; exact h.elim
            | some s0 =>
              rw [q3] at h
              cases s0 with
              | un => exact h.elim
              | val _ => exact h.elim
              | tup _ => exact h.elim
              | lst xs =>
                dsimp only at h
                cases q4 : p xs ds with
                | none => rw [q4] at h; exact h.elim
                | some dy =>
                  obtain ⟨d, ys⟩ := dy
                  rw [q4] at h
                  obtain ⟨da, dl⟩ := pend_ex pn q1 ⟨Γ', q⟩
                  obtain ⟨a, ws0, rfl, h1, h2, put⟩ := own_put (ys := ys) r' g' q3 hv0
                  refine ⟨a, ws0, G', xs, ds, d, ys, rfl, h1, g'.sub, h2, da, q4, fun v ws hv hw => ?_⟩
                  obtain ⟨r2, g2, p2⟩ := put ws hw
                  exact h v G' _ [] as' (.val hv) r2 g2 (st.trans p2)
theorem setIx_run0 {i : Nat} {fk fv : F} {D : Ends} {σ : L2.St} {H : Hp} (hi : ∃ v, σ[i]? = some (some v)) (h : TSv K ca W io (fun Γ => (opsF [.ex fv, .ex fk] Γ).fl fun l Γ' => (match rslv Γ' l, Γ'[i]? with
    | some [d, .int k], some (.lst xs) => (match ixN xs.length k with
      | some j => .next (Γ'.set i (.lst (xs.set j d)))
      | none => .no)
    | _, _ => .no)) D σ H) :
    tAsg (TEv K ca W fv) (gSub (tVar i) (TEv K ca W fk) rSetL) D σ H := by
  obtain ⟨v0, hv0⟩ := hi
  have z := ops_fl (Q := fun vs H' => match vs with
    | [x, y] => rSetL v0 y x H' fun H3 => D.nx σ H3
    | _ => False) h fun l Γ' vs G' H' as' ⟨Γ0, q0⟩ pn r g p => by
      cases q1 : rslv Γ' l with
      | none => rw [q1] at p; exact p.elim
      | some ds =>
        obtain ⟨da, dl⟩ := pend_ex (os := [fv, fk]) pn q1 ⟨Γ', q0⟩
        rw [q1] at p
        cases q3 : Γ'[i]? with
        | none => rw [q3] at p; cases da <;> (try exact p.elim) <;> (rename_i da; cases da <;> (try exact p.elim)) <;> (rename_i hk da; cases da <;> (try exact p.elim)) <;> (cases hk <;> exact p.elim)
        | some s0 =>
          rw [q3] at p
          cases da with
          | nil => exact p.elim
          | cons hx da =>
            cases da with
            | nil => exact p.elim
            | cons hy da =>
              cases da with
              | cons _ _ => cases hy <;> exact p.elim
              | nil =>
                cases hy with
                | non => exact p.elim
                | bl _ => exact p.elim
                | str _ => exact p.elim
                | lst _ _ => exact p.elim
                | tup _ _ => exact p.elim
                | int k =>
                  cases s0 with
                  | un => exact p.elim
                  | val _ => exact p.elim
                  | tup _ => exact p.elim
                  | lst xs =>
                    dsimp only at p
                    cases q4 : ixN xs.length k with
                    | none => rw [q4] at p; exact p.elim
                    | some j =>
                      rw [q4] at p
                      rename_i x d
                      obtain ⟨a, ws0, rfl, h1, h2, put⟩ := own_put (ys := xs.set j d) r g q3 hv0
                      have sd : ∀ {ws : List V} {ds : List PyData} (j : Nat), DpAll K G' ws ds → DpAll K G' (ws.set j x) (ds.set j d) := fun {ws ds} j h => by
                        induction h using DpAll.rec (motive_1 := fun _ _ _ => True) generalizing j with
                        | nil => exact .nil
                        | cons h r _ ih =>
                          cases j with
                          | zero => exact .cons hx r
                          | succ j => exact .cons h (ih j)
                        | _ => trivial
                      obtain ⟨r2, g2, p2⟩ := put (ws0.set j x) (sd j h2)
                      refine ⟨a, ws0, k, j, rfl, rfl, h1, by rw [DpAll_len h2]; exact q4, ?_⟩
                      exact p σ G' _ as' r2 g2 p2 (.refl _)
  refine TEv_mono z fun x H1 q => ⟨v0, hv0, q⟩
theorem setIx_run {i : Nat} {fk fv : F} {D : Ends} {σ : L2.St} {H : Hp} (h : TSv K ca W io (setIxS i fk fv) D σ H) :
    tAsg (TEv K ca W fv) (gSub (tVar i) (TEv K ca W fk) rSetL) D σ H := by
  obtain ⟨Γ, G, as, r, g, h⟩ := h
  unfold setIxS at h
  cases q0 : Γ[i]? with
  | none => rw [q0] at h; exact h.elim
  | some s =>
    rw [q0] at h
    cases s with
    | un => exact h.elim
    | val _ => exact h.elim
    | tup _ => exact h.elim
    | lst xs0 =>
      obtain ⟨v0, _, hv0, _, _⟩ := r.val q0 (fun z => nomatch z)
      exact setIx_run0 ⟨v0, hv0⟩ ⟨Γ, G, as, r, g, h⟩

/-! chains -/
def chF (p q : List PyData → Option Sl) (a b c : F) : F := fun Γ => (opsF [.ex a, .ex b] Γ).bind fun l Γ1 => match rslv Γ1 l with
  | some [x, y] => (match p [x, y] with
    | some (.val (.bool true)) => (c Γ1).bind fun s Γ2 => (match s.fz with
      | some z => (match q [y, z] with
        | some (.val (.bool k)) => .ok (vB k) Γ2
        | _ => .no)
      | none => .no)
    | some (.val (.bool false)) => .ok (vB false) Γ1
    | _ => .no)
  | _ => .no
/-- a primitive on two values -/
def Prim2 (K : PySem.W.Frag) (p : List PyData → Option Sl) : R2 := fun x y H Q => PrimR K p [x, y] H Q
theorem ch_run {p q : List PyData → Option Sl} {a b c : F} {σ : L2.St} {H : Hp} {Q : VK} (h : TEv K ca W (chF p q a b c) σ H Q) : tChain (Prim2 K p) (Prim2 K q) (TEv K ca W a) (TEv K ca W b) (TEv K ca W c) σ H Q := by
  obtain ⟨Γ, G, as, r, g, h⟩ := h
  have z := ops_run (K := K) (ca := ca) (W := W) [.ex a, .ex b] (Γ := Γ) (G := G) (H := H) (as := as) (σ := σ) (Q := fun vs H' => match vs with
    | [x, y] => Prim2 K p x y H' fun z H3 => ∃ k, z = .bl k ∧ (if k = true then TEv K ca W c σ H3 fun w' H4 => Prim2 K q y w' H4 Q else Q (.bl false) H3)
    | _ => False) r g ?_
  · exact z
  · unfold chF at h
    cases q0 : opsF [.ex a, .ex b] Γ with
    | no => rw [q0] at h; exact h
    | ex c d Γ' => rw [q0] at h; exact h
    | ok l Γ1 =>
      rw [q0] at h
      simp only [Res.bind] at h
      intro vs G1 H1 as1 pn r1 g1 st
      cases q1 : rslv Γ1 l with
      | none => rw [q1] at h; exact h.elim
      | some ds =>
        obtain ⟨da, dl⟩ := pend_ex (os := [a, b]) pn q1 ⟨Γ1, q0⟩
        rw [q1] at h
        cases da with
        | nil => exact h.elim
        | cons hx da =>
          cases da with
          | nil => exact h.elim
          | cons hy da =>
            cases da with
            | cons _ _ => exact h.elim
            | nil =>
              rename_i x d1 y d2
              dsimp only at h ⊢
              cases q2 : p [d1, d2] with
              | none => rw [q2] at h; exact h.elim
              | some s =>
                rw [q2] at h
                refine ⟨G1, [d1, d2], s, g1.sub, .cons (.inl hx) (.cons (.inl hy) .nil), q2, fun v G2 H2 av rs g2 p2 => ?_⟩
                cases rs with
                | lst _ _ => exact h.elim
                | tup _ _ => exact h.elim
                | val hd =>
                  cases hd with
                  | non => exact h.elim
                  | int _ => exact h.elim
                  | str _ => exact h.elim
                  | lst _ _ => exact h.elim
                  | tup _ _ => exact h.elim
                  | bl k =>
                    refine ⟨k, rfl, ?_⟩
                    have r2 := r1.car p2.car0
                    have g2' : Good G2 H2 as1 := g1.join (av := []) g2 p2
                    have st2 := st.join (av := []) p2
                    cases k with
                    | false => exact L2.iteF (h (.bl false) G2 H2 [] as1 (.val (.bl false)) r2 g2' st2)
                    | true =>
                      refine L2.iteT ⟨Γ1, G2, as1, r2, g2', ?_⟩
                      dsimp only at h
                      cases q3 : c Γ1 with
                      | no => rw [q3] at h; exact h.elim
                      | ex cc dd Γ2 => rw [q3] at h; exact PostX.step h st2
                      | ok s3 Γ2 =>
                        rw [q3] at h
                        intro w3 G3 H3 av3 as3 rs3 r3 g3 p3
                        simp only [Res.bind] at h
                        cases q4 : s3.fz with
                        | none => rw [q4] at h; exact h.elim
                        | some d3 =>
                          rw [q4] at h
                          have dz : Dp K (frz G3 H3 av3) w3 d3 := rs3.frz q4 (fun _ z => z) (frz_kG g3 (by simp +contextual))
                          have p3' := p3.frz g3
                          have gg := g3.frz
                          dsimp only at h
                          cases q5 : q [d2, d3] with
                          | none => rw [q5] at h; exact h.elim
                          | some s5 =>
                            rw [q5] at h
                            refine ⟨_, [d2, d3], s5, gg.sub, .cons (.inl (Dp_mono p3'.kG (Dp_mono p2.kG hy))) (.cons (.inl dz) .nil), q5, fun v5 G5 H5 av5 rs5 g5 p5 => ?_⟩
                            cases rs5 with
                            | lst _ _ => exact h.elim
                            | tup _ _ => exact h.elim
                            | val hd5 =>
                              cases hd5 with
                              | non => exact h.elim
                              | int _ => exact h.elim
                              | str _ => exact h.elim
                              | lst _ _ => exact h.elim
                              | tup _ _ => exact h.elim
                              | bl k5 => exact h (.bl k5) G5 H5 [] as3 (.val (.bl k5)) ((r3.frz g3).car p5.car0) (gg.join (av := []) g5 p5) ((st2.trans p3').join (av := []) p5)
end

/-! ## a def's run -/
def bkOf (io : Bool) (Γ : Env) : Option Sl := if io = true then (match Γ[0]? with
  | some s => if s.owned = true then some s else none
  | none => none) else some .un
def runS (io : Bool) (n : Nat) (x : SF) : Fn := fun ss => match x (ss ++ List.replicate (n - ss.length) .un) with
  | .next Γ => (match bkOf io Γ with
    | some b => .ok (.val .none) b
    | none => .no)
  | .ret s Γ => (match bkOf io Γ with
    | some b => .ok s b
    | none => .no)
  | .ex c d Γ => (match bkOf io Γ with
    | some b => .ex c d b
    | none => .no)
  | _ => .no
section
variable {K : PySem.W.Frag} {ca : Str → Addr} {W : WX} {io : Bool}
theorem repE_un {G H : Hp} : ∀ n : Nat, RepE K G H (List.replicate n none) (List.replicate n .un) []
  | 0 => .nil
  | n + 1 => .un (repE_un n)
theorem repE_start {G H : Hp} (n : Nat) : ∀ {vs : List V} {ss : List Sl} {as : List Addr}, RepL K G H vs ss as → RepE K G H (vs.map some ++ List.replicate n none) (ss ++ List.replicate n .un) as
  | _, _, _, .nil => repE_un n
  | _, _, _, .cons h r => .cons h (repE_start n r)
theorem repL_len {G H : Hp} : ∀ {vs : List V} {ss : List Sl} {as : List Addr}, RepL K G H vs ss as → vs.length = ss.length
  | _, _, _, .nil => rfl
  | _, _, _, .cons _ r => by simp [repL_len r]
/-- what the first slot holds at the end -/
theorem bk_end {σ σ' : L2.St} {Γ : Env} {G H G0 H0 : Hp} {as av as0 : List Addr} {b : Sl} (hb : bkOf io Γ = some b) (r : RepE K G H σ' Γ as) (g : Good G H (av ++ as)) (s : Sl0 io σ σ') (p : Stp as0 G0 H0 G H (av ++ as)) :
    ∃ ab, (io = true → ∃ v0, σ[0]? = some (some v0) ∧ RepS K G H v0 b ab) ∧ (io = false → ab = []) ∧ Good G H (av ++ ab) ∧ Stp as0 G0 H0 G H (av ++ ab) := by
  cases io with
  | false =>
    have m : ∀ a ∈ av ++ [], a ∈ av ++ as := fun a z => by
      rw [List.append_nil] at z
      simp [z]
    exact ⟨[], (fun z => by cases z), (fun _ => rfl), g.sub' m (by rw [List.append_nil]; exact (List.nodup_append.mp g.nd).1), p.less m⟩
  | true =>
    unfold bkOf at hb
    rw [if_pos rfl] at hb
    cases q : Γ[0]? with
    | none => rw [q] at hb; cases hb
    | some s0 =>
      rw [q] at hb
      dsimp only at hb
      by_cases c : s0.owned = true
      · rw [if_pos c] at hb
        cases hb
        have hl : 0 < Γ.length := by
          by_cases z : 0 < Γ.length
          · exact z
          · rw [List.getElem?_eq_none (by omega)] at q; cases q
        obtain ⟨pre, a0, post, e1, fr, kr⟩ := r.at hl
        obtain ⟨v0, hv0, rs0⟩ := fr _ q (fun z => by subst z; cases c)
        refine ⟨a0, fun _ => ⟨v0, by rw [← s rfl]; exact hv0, rs0⟩, (fun z => by cases z), ?_, ?_⟩
        · subst e1
          refine g.sub' (fun a z => ?_) ?_
          · rcases List.mem_append.mp z with z | z <;> simp [z]
          · obtain ⟨n1, n2, n3⟩ := List.nodup_append.mp g.nd
            obtain ⟨n4, n5, n6⟩ := List.nodup_append.mp n2
            obtain ⟨n7, _, _⟩ := List.nodup_append.mp n5
            exact List.nodup_append.mpr ⟨n1, n7, fun a ha b hb => n3 a ha b (by simp [hb])⟩
        · subst e1
          refine p.less fun a z => ?_
          rcases List.mem_append.mp z with z | z <;> simp [z]
      · rw [if_neg c] at hb; cases hb
/-- a def by what its body comes to -/
theorem fn_run {N : List Str} {n : Nat} {x : SF} {vs : List V} {H : Hp} {Q : VK} {E : XK} (h : SpF K ca io n (runS io N.length x) vs H Q E) :
    TSv K ca (fun cls d _ H => E cls d H) io x { nx := fun _ H' => Q .non H', rt := Q } (L2.start N vs) H := by
  obtain ⟨hl, G, as, ss, rl, g, eio, h⟩ := h
  have e : L2.start N vs = vs.map some ++ List.replicate (N.length - ss.length) none := by unfold L2.start; rw [repL_len rl]
  have r0 : RepE K G H (L2.start N vs) (ss ++ List.replicate (N.length - ss.length) .un) as := by rw [e]; exact repE_start _ rl
  refine ⟨_, G, as, r0, g, ?_⟩
  have at0 : ∀ v0, (L2.start N vs)[0]? = some (some v0) → vs[0]? = some v0 := fun v0 q => by
    rw [e] at q
    cases vs with
    | nil =>
      exfalso
      cases k : N.length - ss.length with
      | zero => rw [k] at q; cases q
      | succ m => rw [k] at q; cases q
    | cons v vs => simpa using q
  unfold runS at h
  revert h
  cases x (ss ++ List.replicate (N.length - ss.length) .un) with
  | no => exact fun h => h
  | brk _ => exact fun h => h.elim
  | cont _ => exact fun h => h.elim
  | next Γ =>
    dsimp only
    cases qb : bkOf io Γ with
    | none => exact fun h => h.elim
    | some b =>
      intro h σ' G' H' as' r g p s
      obtain ⟨ab, b1, b2, b3, b4⟩ := bk_end (av := []) qb r g s p
      exact h .non G' H' [] ab (.val .non) (fun z => let ⟨v0, q1, q2⟩ := b1 z; ⟨v0, at0 v0 q1, q2⟩) b2 b3 b4
  | ret s Γ =>
    dsimp only
    cases qb : bkOf io Γ with
    | none => exact fun h => h.elim
    | some b =>
      intro h v σ' G' H' av as' rs r g p s
      obtain ⟨ab, b1, b2, b3, b4⟩ := bk_end qb r g s p
      exact h v G' H' av ab rs (fun z => let ⟨v0, q1, q2⟩ := b1 z; ⟨v0, at0 v0 q1, q2⟩) b2 b3 b4
  | ex c d Γ =>
    dsimp only
    cases qb : bkOf io Γ with
    | none => exact fun h => h.elim
    | some b =>
      intro h cls dd σ' G' H' as' r g p s xr
      obtain ⟨ab, b1, b2, b3, b4⟩ := bk_end (av := []) qb r g s p
      exact h cls dd G' H' ab (fun z => let ⟨v0, q1, q2⟩ := b1 z; ⟨v0, at0 v0 q1, q2⟩) b2 b3 b4 xr
end
end PyI

namespace PyI
open PySem PySem.Spec PyProof.Rows L2
/-! ## how many unlike things a list holds, by the set that is made of it -/
def ddup {α : Type} [BEq α] (l : List α) : List α := l.foldl (fun a x => if a.contains x then a else a ++ [x]) []
theorem ddup_snoc {α : Type} [BEq α] (l : List α) (x : α) : ddup (l ++ [x]) = if (ddup l).contains x then ddup l else ddup l ++ [x] := by
  unfold ddup
  rw [List.foldl_append]
  rfl
theorem ddup_has_aux {α : Type} [BEq α] [LawfulBEq α] (x : α) : ∀ (l acc : List α), (l.foldl (fun a x => if a.contains x then a else a ++ [x]) acc).contains x = (acc.contains x || l.contains x)
  | [], acc => by simp
  | y :: l, acc => by
    rw [List.foldl_cons, ddup_has_aux x l]
    by_cases h : acc.contains y = true
    · rw [if_pos h]
      by_cases e : x == y
      · have e := eq_of_beq e
        subst e
        simp only [h, Bool.true_or]
      · rw [List.contains_cons]
        simp only [e, Bool.false_or]
    · rw [if_neg h]
      by_cases e : x == y
      · have e := eq_of_beq e
        subst e
        simp
      · have e' : (x == y) = false := by simpa using e
        have ne : x ≠ y := fun z => by subst z; simp at e'
        simp [ne]
theorem ddup_has {α : Type} [BEq α] [LawfulBEq α] (x : α) (l : List α) : (ddup l).contains x = l.contains x := by
  unfold ddup
  rw [ddup_has_aux]
  simp
theorem ddup_nodup {α : Type} [BEq α] [LawfulBEq α] : ∀ (l acc : List α), (∀ x ∈ l, acc.contains x = false) → l.Nodup → l.foldl (fun a x => if a.contains x then a else a ++ [x]) acc = acc ++ l
  | [], acc, _, _ => by simp
  | y :: l, acc, h, n => by
    obtain ⟨n1, n2⟩ := List.nodup_cons.mp n
    rw [List.foldl_cons, if_neg (by rw [h y (by simp)]; simp), ddup_nodup l (acc ++ [y]) (fun x hx => ?_) n2]
    · simp
    · have h1 := h x (by simp [hx])
      have ne : x ≠ y := fun e => n1 (e ▸ hx)
      simp only [List.contains_eq_mem, List.mem_append, List.mem_singleton, decide_eq_false_iff_not] at h1 ⊢
      exact fun z => z.elim h1 ne
theorem ddup_of_nodup {α : Type} [BEq α] [LawfulBEq α] {l : List α} (h : l.Nodup) : ddup l = l := by
  unfold ddup
  rw [ddup_nodup l [] (by simp) h]
  rfl
section
variable {prog : Program} {w : World} {A : Around} {R : Result → Shared → Prop} {J : Addr} {fp wr : List Addr} {G : Array GenState → Array GenState → Prop} {n : Nat} {P : Nat → Value → Prop} {St : Nat → Shared → Prop}
/-- what the set holds behind i turns -/
def Held (prog : Program) (w : World) (S : Addr) (xs : List Str) (i : Nat) (h : Heap) : Prop := h.SetOf (PySem.strKind prog w) S (fun y => (xs.take i).contains y) (ddup (xs.take i)).length
theorem held_moved {S : Addr} {xs : List Str} {i : Nat} {h h' : Heap} (k : ∀ o, h.get? S = some o → h'.get? S = some o) (z : Held prog w S xs i h) : Held prog w S xs i h' := by
  obtain ⟨o, es, ep, t, ho, rest⟩ := z
  exact ⟨o, es, ep, t, k o ho, rest⟩
theorem ddup_len {α : Type} [BEq α] [LawfulBEq α] (l : List α) : (ddup l).length ≤ l.length := by
  have aux : ∀ (l acc : List α), (l.foldl (fun a x => if a.contains x then a else a ++ [x]) acc).length ≤ acc.length + l.length := fun l => by
    induction l with
    | nil => intro acc; simp
    | cons y l ih =>
      intro acc
      rw [List.foldl_cons]
      refine Nat.le_trans (ih _) ?_
      by_cases h : acc.contains y = true
      · rw [if_pos h, List.length_cons]; omega
      · rw [if_neg h, List.length_cons, List.length_append, List.length_singleton]; omega
  simpa [ddup] using aux l []
theorem set_turns (V : WalksS prog w A.in1 J fp wr G n P St) (S : Addr) (out : S ∉ fp) (xs : List Str) (hlen : xs.length = n) (room : n + 1 < scanBound) (each : ∀ i v, P i v → ∃ t, v = .str (xs.getD i Str.empty) t) :
    ∀ (d i : Nat) (s : Shared), n - i = d → i ≤ n → St i s → Held prog w S xs i s.heap →
      (∀ s', Moved (S :: wr) G s s' → Held prog w S xs n s'.heap → R (.ok (.ret .none)) s') →
      codeAny (model prog w) A (.builtin "set.update.loop" ⟨[.ref S, .ref J], []⟩) R s := by
  have outW : S ∉ wr := fun z => out (V.sub _ z)
  have more : ∀ b ∈ wr, b ∈ S :: wr := fun b z => List.mem_cons_of_mem _ z
  intro d
  induction d with
  | zero =>
    intro i s e le st hd fin
    obtain rfl : i = n := by omega
    refine codeAny_builtin PyProof.Rows.F.entry_set_update_loop ?_
    rw [Around.under_plainId PyProof.Rows.F.plain_set_update_loop _]
    show wpAny _ A.in1 (pyNext (.ref J) >>= _) _ _ s
    refine wpAny_bind (V.done s _ _ st fun s' mv => ?_)
    show wpAny _ A.in1 (ret Value.none) _ _ s'
    exact wpAny_pure (fin s' (mv.mono more) (held_moved (fun o => mv.heap S o outW) hd))
  | succ d ih =>
    intro i s e le st hd fin
    have lt : i < n := by omega
    refine codeAny_builtin PyProof.Rows.F.entry_set_update_loop ?_
    rw [Around.under_plainId PyProof.Rows.F.plain_set_update_loop _]
    show wpAny _ A.in1 (pyNext (.ref J) >>= _) _ _ s
    refine wpAny_bind (V.item i s _ _ lt st fun v s' pv st' mv => ?_)
    obtain ⟨t, rfl⟩ := each i v pv
    have hd' : Held prog w S xs i s'.heap := held_moved (fun o => mv.heap S o outW) hd
    show wpAny _ A.in1 (holding [Value.str (xs.getD i Str.empty) t] (setAdd S (.str (xs.getD i Str.empty) t)) >>= _) _ _ s'
    refine wpAny_bind (wpAny_holding ?_)
    unfold setAdd
    refine wpAny_holding (wpAny_bind ((PySem.strKind prog w).pyHash (k := xs.getD i Str.empty) (strKind_is _ _ _ _) ?_))
    have small : (ddup (xs.take i)).length + 1 < scanBound := by
      have := ddup_len (xs.take i)
      rw [List.length_take] at this
      omega
    refine wpAny_setAddHashed_of (knd := PySem.strKind prog w) (s := { s' with toks := s'.toks + 1 }) (strKind_is _ _ _ _) rfl hd' small fun h' but held => ?_
    have li : i < xs.length := by omega
    have tk : xs.take (i + 1) = xs.take i ++ [xs.getD i Str.empty] := by
      rw [List.take_succ, List.getD_eq_getElem?_getD, List.getElem?_eq_getElem li]
      rfl
    have next : Held prog w S xs (i + 1) h' := by
      unfold Held
      rw [tk, ddup_snoc, ddup_has]
      refine SetOf_congr held (fun y => ?_) ?_
      · by_cases q : y = xs.getD i Str.empty
        · subst q; simp
        · simp [q]
      · split <;> simp
    refine wpAny_pure ⟨plainId_quiet PyProof.Rows.F.plain_set_update_loop _, ih (i + 1) _ (by omega) lt (V.frame _ s' _ _ st' (Nat.le_succ _) fun b hb o eb => ?_) next fun s'' mv2 hd2 => ?_⟩
    · rw [but.2 b fun z : b = S => out (z ▸ hb)]; exact eb
    · refine fin s'' (Moved.trans V.gtrans ((mv.mono more).then_heap (Nat.le_succ _) fun b o hb eb => ?_) mv2) hd2
      rw [but.2 b fun z : b = S => hb (by rw [z]; exact List.mem_cons_self)]; exact eb
end
section
variable {prog : Program} {w : World} {A : Around} {E : Value → Shared → Prop} {s : Shared}
set_option maxHeartbeats 3200000 in
theorem set_of_texts {l : Addr} {its : Array Value} {xs : List Str} {Q : Value → Shared → Prop} (calm : A.handled = none) (hl : s.heap.IsList l its) (are : PyProof.Rows.StrsAre its.toList xs) (room : xs.length + 1 < scanBound)
    (h : ∀ (h' : Heap) (tk : Nat), Held prog w s.heap.objs.size xs its.size h' → (∀ b o, b < s.heap.objs.size → s.heap.get? b = some o → h'.get? b = some o) → Q (.ref s.heap.objs.size) { s with heap := h', toks := tk }) :
    wpAny (model prog w) A (call (.type "set") [.ref l]) Q E s := by
  obtain ⟨c, tl, hmro⟩ := PySem.F.called_set.mro
  have a1 := PySem.F.called_set.made
  have a2 := PySem.F.called_set.sub
  refine wpAny_call (codeAny_of_tree ?_)
  show wpAny _ _ (callAny (.type "set") _) _ _ _
  refine wpAny_pure ⟨Code.quiet_builtin _ (by decide +kernel), codeAny_builtin PySem.F.entry_type_call ?_⟩
  rw [Around.under_plain (weight_type_call_type "set" [.ref l] []) rfl]
  have a3 := PySem.F.called_set.notType
  have a4 := PySem.F.called_set.canCreate
  have a5 := PySem.F.typeCall_set_1 (.ref l)
  repeat (any_goals (first | assumption | wp_step))
  refine codeAny_mono (code_set_new_1 (.ref l) (E := E) (Q₁ := fun ob s1 => ∃ ld : Bool, ob = .ref s.heap.objs.size ∧ s1 = { s with heap := s.heap.push { cls := .type "set", dict := none, data := .set #[] 0 (.fresh 0 0 ld) } }) fun ld => ⟨ld, rfl, rfl⟩) fun r s1 hr => ?_
  cases r with
  | error e => exact hr
  | ok fl =>
  cases fl with
  | next => exact hr.elim
  | brk => exact hr.elim
  | cont => exact hr.elim
  | ret ob =>
  obtain ⟨ld, rfl, rfl⟩ := hr
  have atS : (s.heap.push { cls := .type "set", dict := none, data := .set #[] 0 (.fresh 0 0 ld) }).get? s.heap.objs.size = some { cls := .type "set", dict := none, data := .set #[] 0 (.fresh 0 0 ld) } := Heap.get?_push_size _ rfl
  have tyS : Shared.TypeIs { s with heap := s.heap.push { cls := .type "set", dict := none, data := .set #[] 0 (.fresh 0 0 ld) } } (.ref s.heap.objs.size) "set" := ⟨_, atS, rfl⟩
  have b1 := PySem.F.called_set.init.lookup
  have b2 := PySem.F.called_set.init.bind (.ref s.heap.objs.size)
  repeat (any_goals (first | assumption | wp_step))
  refine codeAny_mono (codeAny_call_builtin (R := wants (fun r s2 => r = .none ∧ ∃ h' tk, s2 = { s with heap := h', toks := tk } ∧ Held prog w s.heap.objs.size xs its.size h' ∧ (∀ b o, b < s.heap.objs.size → s.heap.get? b = some o → h'.get? b = some o)) E) PySem.F.called_set.init.plain PySem.F.entry_set_init (check_set_init_1 tyS ?_)) fun r2 s2 hr2 => ?_
  case refine_1 =>
    obtain ⟨⟨oc, od, dt, sl⟩, hol, hc, nl, hd⟩ := hl
    simp only at hc hd
    subst hc hd
    have hol' : (s.heap.push { cls := .type "set", dict := none, data := .set #[] 0 (.fresh 0 0 ld) }).get? l = some { cls := .type "list", dict := od, data := .seq its nl, slots := sl } := Heap.get?_push_of_some _ hol
    have c1 := PySem.F.sub_list_set
    have c2 := PySem.F.sub_list_frozenset
    have c3 : (Value.type "list" == Value.type "dict") = false := by decide
    have hl1 : (s.heap.push { cls := .type "set", dict := none, data := .set #[] 0 (.fresh 0 0 ld) }).IsList l its := ⟨_, hol', rfl, nl, rfl⟩
    unfold Builtin.«set.__init__» noKeywords Builtin.Frozenset.updateFrom
    generalize hPI : pyIter = PI
    wp_walk
    subst hPI
    refine wpAny_pyIter_list hl1 ?_
    refine wpAny_bind (wpAny_runValue ?_)
    have lS : l < s.heap.objs.size := Heap.lt_size hol
    have calm3 : A.in1.in1.in1.handled = none := by simp [calm]
    have lI : l ≠ (s.heap.push { cls := .type "set", dict := none, data := .set #[] 0 (.fresh 0 0 ld) }).objs.size := by rw [Heap.size_push]; exact Nat.ne_of_lt (Nat.lt_succ_of_lt lS)
    have out : s.heap.objs.size ∉ [(s.heap.push { cls := .type "set", dict := none, data := .set #[] 0 (.fresh 0 0 ld) }).objs.size, l] := by
      rw [Heap.size_push]
      intro z
      rcases List.mem_cons.mp z with z | z
      · exact Nat.ne_of_lt (Nat.lt_succ_self _) z
      · exact Nat.ne_of_gt lS (List.mem_singleton.mp z)
    have len : xs.length = its.size := by rw [← StrsAre.len_eq are, Array.length_toList]
    have each : ∀ (i : Nat) (v : Value), its[i]? = some v → ∃ t, v = .str (xs.getD i Str.empty) t := fun i v hv => SS.strs_at are i v (by rw [Array.getElem?_toList]; exact hv)
    refine set_turns ((Walks.list calm3 _ l lI its).toS) s.heap.objs.size out xs len (by rw [← len]; exact room) each (its.size - 0) 0 _ (by omega) (Nat.zero_le _) ⟨⟨_, Heap.get?_push_size _ rfl, rfl, rfl⟩, (hl1.push _)⟩ ?h0 ?hE
    case h0 =>
      have g : ((s.heap.push { cls := .type "set", dict := none, data := .set #[] 0 (.fresh 0 0 ld) }).push { cls := .type "list_iterator", data := .fields #[.ref l, .int 0 0] }).get? s.heap.objs.size = some { cls := .type "set", dict := none, data := .set #[] 0 (.fresh 0 0 ld) } := Heap.get?_push_of_some _ atS
      exact SetOf_congr ((setObjOf_fresh (knd := PySem.strKind prog w) ld).setOf g (by unfold scanBound; omega)) (fun _ => rfl) rfl
    case hE =>
      intro s' mv held
      obtain ⟨h', g', d', tk', os'⟩ := s'
      obtain rfl : g' = s.gens := mv.gens
      obtain rfl : d' = s.drawn := mv.drawn
      obtain rfl : os' = s.os := mv.os
      show wpAny _ _ _ _ _ _
      refine wpAny_pure ?_
      show wpAny _ _ (ret Value.none) _ _ _
      refine wpAny_pure ⟨rfl, h', tk', rfl, held, fun b o hb e => mv.heap b o (fun z => ?_) (Heap.get?_push_of_some _ (Heap.get?_push_of_some _ e))⟩
      rcases List.mem_cons.mp z with z | z
      · exact Nat.ne_of_lt hb z
      · have z := List.mem_singleton.mp z
        rw [Heap.size_push] at z
        exact Nat.ne_of_lt (Nat.lt_succ_of_lt hb) z
  case refine_2 =>
    cases r2 with
    | error e => exact hr2
    | ok fl2 =>
    cases fl2 with
    | next => exact hr2.elim
    | brk => exact hr2.elim
    | cont => exact hr2.elim
    | ret r =>
    obtain ⟨rfl, h', tk, rfl, held, kept⟩ := hr2
    repeat (any_goals (first | assumption | wp_step))
    exact h _ _ held kept
end
end PyI

namespace PyI
open PySem PySem.Spec PyProof.Rows L2

/-! ## primitives: what they come to -/
inductive Prm where
  | add | sub | mul | fdiv | mod | pow | neg
  | eq | ne | lt | le | gt | ge | isin | notin | isN | notN
  | ix | sl00 | sl10 | sl01 | sl11 | rev
  | tup | lst
  | len | all | any | abs | sum | tupleOf | listOf | sorted | int | str | lenset | min2 | max2
  | isi (ts : List String)
  | join | split | index
  deriving DecidableEq
def lineB (n : Nat) : Bool := decide (n ≤ sizeLine)
def intsOf : List PyData → Option (List Int)
  | [] => some []
  | .int i :: r => (intsOf r).map (i :: ·)
  | _ => none
def strsOf : List PyData → Option (List Str)
  | [] => some []
  | .str i :: r => (strsOf r).map (i :: ·)
  | _ => none
def bitsOf : List PyData → Option (List Bool)
  | [] => some []
  | .bool i :: r => (bitsOf r).map (i :: ·)
  | _ => none
def flatD : PyData → Bool
  | .none => true
  | .bool _ => true
  | .int _ => true
  | .str _ => true
  | _ => false
def big64 (i : Int) : Bool := decide (-(2 ^ 64) < i ∧ i < 2 ^ 64)
def tyOf : PyData → String
  | .none => "NoneType"
  | .bool _ => "bool"
  | .int _ => "int"
  | .str _ => "str"
  | .list _ => "list"
  | .tuple _ => "tuple"
  | .dict _ => "dict"
def isiS (s t : String) : Bool := s == t || (s == "bool" && t == "int")
def isiB (d : PyData) (t : String) : Bool := isiS (tyOf d) t
def cutD (xs : List PyData) (lo hi : Option Int) : List PyData := (xs.drop (HT.sIx xs.length 0 lo)).take (HT.sIx xs.length xs.length hi - HT.sIx xs.length 0 lo)
def slD (d : PyData) (lo hi : Option Int) : Option Sl := match d with
  | .list xs => some (.lst (cutD xs lo hi))
  | .tuple xs => some (.val (.tuple (cutD xs lo hi)))
  | .str z => if lineB z.length then some (.val (.str (cutS z lo hi))) else none
  | _ => none
def seqD : PyData → Option (List PyData)
  | .list xs => some xs
  | .tuple xs => some xs
  | _ => none
def scD : PyData → PyData → Bool
  | .none, .none => true | .none, .int _ => true | .int _, .none => true | .none, .bool _ => true | .bool _, .none => true | .none, .str _ => true | .str _, .none => true
  | .int _, .int _ => true | .bool _, .bool _ => true | .str _, .str _ => true
  | .int _, .str _ => true | .str _, .int _ => true | .bool _, .str _ => true | .str _, .bool _ => true
  | _, _ => false
def eqD (a b : PyData) : Option Bool := if scD a b || (SeqAt.shaped a && SeqAt.shaped b) then some (PyData.eqv a b) else none
def inD (a b : PyData) : Option Bool := match b with
  | .list ds => if (flatD a && ds.all flatD) || (SeqAt.shaped a && SeqAt.shaped (.list ds)) then some (ds.any fun z => PyData.eqv z a) else none
  | .tuple ds => if flatD a && ds.all flatD then some (ds.any fun z => PyData.eqv z a) else none
  | .str z => (match a with
    | .str x => (match x.cps.toList with
      | [c] => some (decide (c ∈ z.cps.toList))
      | _ => none)
    | _ => none)
  | _ => none
def isortI (ns : List Int) : List Int := ns.mergeSort (· ≤ ·)
def dII (f : Int → Int → Option Sl) : List PyData → Option Sl
  | [.int i, .int j] => f i j
  | _ => none
def dBB (f : Int → Int → Bool) : List PyData → Option Sl := dII fun i j => some (vB (f i j))
def dAdd : List PyData → Option Sl
  | [.int i, .int j] => some (.val (.int (i + j)))
  | [.str x, .str y] => if lineB (x.length + y.length) then some (.val (.str (x ++ y))) else none
  | [.list xs, .list ys] => if lineB (xs.length + ys.length) then some (.lst (xs ++ ys)) else none
  | [.tuple xs, .tuple ys] => if lineB (xs.length + ys.length) then some (.val (.tuple (xs ++ ys))) else none
  | _ => none
def dSub : List PyData → Option Sl := dII fun i j => some (.val (.int (i - j)))
def dMul : List PyData → Option Sl := dII fun i j => if big64 i || big64 j then some (.val (.int (i * j))) else none
def dFdiv : List PyData → Option Sl := dII fun i j => if 0 < j ∧ j < 1073741824 then some (.val (.int (i / j))) else none
def dMod : List PyData → Option Sl := dII fun i j => if 0 < j then some (.val (.int (i % j))) else none
def dPow : List PyData → Option Sl := dII fun i j => if 0 ≤ j ∧ j ≤ 1000000 ∧ i.natAbs < 2 ^ 64 then some (.val (.int (i ^ j.toNat))) else none
def dNeg : List PyData → Option Sl
  | [.int i] => some (.val (.int (-i)))
  | _ => none
def dEq : List PyData → Option Sl
  | [a, b] => (eqD a b).map vB
  | _ => none
def dNe : List PyData → Option Sl
  | [a, b] => (eqD a b).map fun k => vB !k
  | _ => none
def dIn : List PyData → Option Sl
  | [a, b] => (inD a b).map vB
  | _ => none
def dNotIn : List PyData → Option Sl
  | [a, b] => (inD a b).map fun k => vB !k
  | _ => none
def isNone : PyData → Bool
  | .none => true
  | _ => false
def dIsN : List PyData → Option Sl
  | [a] => some (vB (isNone a))
  | _ => none
def dNotN : List PyData → Option Sl
  | [a] => some (vB !(isNone a))
  | _ => none
def dIx : List PyData → Option Sl
  | [.list xs, .int i] => (atI xs i).map Sl.val
  | [.tuple xs, .int i] => (atI xs i).map Sl.val
  | [.str z, .int i] => if lineB z.length then (atI z.cps.toList i).map fun c => .val (.str ⟨#[c]⟩) else none
  | _ => none
def dSl00 : List PyData → Option Sl
  | [d] => slD d none none
  | _ => none
def dSl10 : List PyData → Option Sl
  | [d, .int i] => slD d (some i) none
  | _ => none
def dSl01 : List PyData → Option Sl
  | [d, .int j] => slD d none (some j)
  | _ => none
def dSl11 : List PyData → Option Sl
  | [d, .int i, .int j] => slD d (some i) (some j)
  | _ => none
def dRev : List PyData → Option Sl
  | [.list xs] => some (.lst xs.reverse)
  | _ => none
def dTup : List PyData → Option Sl := fun ds => if lineB ds.length then some (.val (.tuple ds)) else none
def dLst : List PyData → Option Sl := fun ds => if lineB ds.length then some (.lst ds) else none
def dLen : List PyData → Option Sl
  | [.list xs] => some (.val (.int xs.length))
  | [.tuple xs] => some (.val (.int xs.length))
  | [.str z] => if lineB z.length then some (.val (.int z.length)) else none
  | _ => none
def dAll : List PyData → Option Sl
  | [.list xs] => (bitsOf xs).map fun bs => vB (bs.all id)
  | _ => none
def dAny : List PyData → Option Sl
  | [.list xs] => (bitsOf xs).map fun bs => vB (bs.any id)
  | _ => none
def dAbs : List PyData → Option Sl
  | [.int i] => some (.val (.int (if i < 0 then -i else i)))
  | _ => none
def dSum : List PyData → Option Sl
  | [.list xs] => (intsOf xs).map fun ns => .val (.int ns.sum)
  | _ => none
def dTupleOf : List PyData → Option Sl
  | [.list xs] => some (.val (.tuple xs))
  | [.tuple xs] => some (.val (.tuple xs))
  | _ => none
def dListOf : List PyData → Option Sl
  | [.list xs] => some (.lst xs)
  | [.tuple xs] => some (.lst xs)
  | _ => none
def dSorted : List PyData → Option Sl
  | [.list xs] => (intsOf xs).map fun ns => .lst ((isortI ns).map PyData.int)
  | _ => none
def dInt : List PyData → Option Sl
  | [.int i] => some (.val (.int i))
  | [.bool b] => some (.val (.int (if b then 1 else 0)))
  | [.str z] => (match PySem.intText? z with
    | some n => if z.length ≤ 640 then some (.val (.int n)) else none
    | none => none)
  | _ => none
def dStr : List PyData → Option Sl
  | [.int i] => if i.natAbs.log2 < 1920 then some (.val (.str (toString i))) else none
  | _ => none
def dMin2 : List PyData → Option Sl := dII fun i j => some (.val (.int (if j < i then j else i)))
def dMax2 : List PyData → Option Sl := dII fun i j => some (.val (.int (if j > i then j else i)))
def dIsi (ts : List String) : List PyData → Option Sl
  | [d] => some (vB (ts.any fun t => isiB d t))
  | _ => none
def dJoin : List PyData → Option Sl
  | [.str a, d] => (match seqD d with
    | some xs => (match strsOf xs with
      | some ys => if (ys.map (·.length)).sum + ys.length * a.length ≤ 16777216 then some (.val (.str (Txt.join a ys))) else none
      | none => none)
    | none => none)
  | _ => none
def dSplit : List PyData → Option Sl
  | [.str a, .str b] => if (b.length == 0) = false ∧ a.length + 2 ≤ sizeLine then some (.lst ((Txt.split a b).map PyData.str)) else none
  | _ => none
def dIndex : List PyData → Option Sl
  | [.list xs, a] => if flatD a && xs.all flatD then (xs.findIdx? fun z => PyData.eqv z a).map fun j => .val (.int j) else none
  | _ => none
/-- len(set(..)) of unlike ints or texts -/
def dLenSet : List PyData → Option Sl
  | [.list xs] => (match intsOf xs with
    | some ns => if ns.Nodup ∧ ns.length ≤ 4000 then some (.val (.int ns.length)) else none
    | none => (match strsOf xs with
      | some ys => if ys.length ≤ 4000 then some (.val (.int (ddup ys).length)) else none
      | none => none))
  | _ => none
def den : Prm → List PyData → Option Sl
  | .add => dAdd | .sub => dSub | .mul => dMul | .fdiv => dFdiv | .mod => dMod | .pow => dPow | .neg => dNeg
  | .eq => dEq | .ne => dNe | .isin => dIn | .notin => dNotIn | .isN => dIsN | .notN => dNotN
  | .lt => dBB fun i j => decide (i < j) | .le => dBB fun i j => decide (i ≤ j) | .gt => dBB fun i j => decide (j < i) | .ge => dBB fun i j => decide (j ≤ i)
  | .ix => dIx | .sl00 => dSl00 | .sl10 => dSl10 | .sl01 => dSl01 | .sl11 => dSl11 | .rev => dRev | .tup => dTup | .lst => dLst
  | .len => dLen | .all => dAll | .any => dAny | .abs => dAbs | .sum => dSum | .tupleOf => dTupleOf | .listOf => dListOf | .sorted => dSorted
  | .int => dInt | .str => dStr | .lenset => dLenSet | .min2 => dMin2 | .max2 => dMax2 | .isi ts => dIsi ts | .join => dJoin | .split => dSplit | .index => dIndex

section
variable {K : PySem.W.Frag} {G H : Hp}
abbrev Sub (G H : Hp) : Prop := ∀ a o, G a = some o → H a = some o
theorem rp_int {v : V} {i : Int} (h : RepP K G H v (.int i)) : v = .int i := by
  rcases h with h | ⟨_, _, _, _, e, _⟩
  · cases h; rfl
  · cases e
theorem rp_str {v : V} {i : Str} (h : RepP K G H v (.str i)) : v = .str i := by
  rcases h with h | ⟨_, _, _, _, e, _⟩
  · cases h; rfl
  · cases e
theorem rp_bl {v : V} {i : Bool} (h : RepP K G H v (.bool i)) : v = .bl i := by
  rcases h with h | ⟨_, _, _, _, e, _⟩
  · cases h; rfl
  · cases e
theorem rp_non {v : V} (h : RepP K G H v .none) : v = .non := by
  rcases h with h | ⟨_, _, _, _, e, _⟩
  · cases h; rfl
  · cases e
theorem rp_lst {v : V} {ds : List PyData} (s : Sub G H) (h : RepP K G H v (.list ds)) : ∃ a vs, v = .ref a ∧ SqL K H a vs ∧ DpAll K G vs ds := by
  rcases h with h | ⟨a, vs, ds', e1, e, h1, h2⟩
  · obtain ⟨a, vs, e, h1, h2⟩ := dp_lst h
    exact ⟨a, vs, e, seqL_mono s h1, h2⟩
  · cases e
    exact ⟨a, vs, e1, .inl (.inl h1), h2⟩
theorem rp_tup {v : V} {ds : List PyData} (s : Sub G H) (h : RepP K G H v (.tuple ds)) : ∃ a vs, v = .ref a ∧ SqT K H a vs ∧ DpAll K G vs ds := by
  rcases h with h | ⟨a, vs, ds', e1, e, h1, h2⟩
  · obtain ⟨a, vs, e, h1, h2⟩ := dp_tup h
    exact ⟨a, vs, e, seqT_mono s h1, h2⟩
  · cases e
theorem rp_dp {v : V} {d : PyData} (s : Sub G H) (h : RepP K G H v d) : Dp K H v d := by
  rcases h with h | ⟨a, vs, ds, rfl, rfl, h1, h2⟩
  · exact Dp_mono s h
  · exact .lst (.inl (.inl h1)) (DpAll_mono s h2)
/-- ends of a primitive -/
abbrev PEnd (K : PySem.W.Frag) (G H : Hp) (s : Sl) (Q : VK) : Prop := ∀ v G' H' av, RepS K G' H' v s av → Good G' H' av → Stp [] G H G' H' av → Q v H'
theorem pe_val {v : V} {d : PyData} {Q : VK} (s : Sub G H) (q : PEnd K G H (.val d) Q) (h : Dp K G v d) : Q v H := q v G H [] (.val h) ⟨s, by simp, .nil⟩ (.refl _ _ _)
theorem pe_newL {p : Addr} {vs : List V} {ds : List PyData} {Q : VK} (s : Sub G H) (q : PEnd K G H (.lst ds) Q) (h : DpAll K G vs ds) (hp : H p = none) : Q (.ref p) (upd H p (.lst vs)) := by
  have n : G p = none := by
    cases z : G p with
    | none => rfl
    | some o => rw [s p o z] at hp; cases hp
  refine q (.ref p) G (upd H p (.lst vs)) [p] (.lst upd_same h) ⟨fun a o e => upd_some (s a o e) (fun z => by subst z; rw [n] at e; cases e), fun a z => ?_, by simp⟩ ⟨fun a o e _ => upd_some e (fun z => by subst z; rw [hp] at e; cases e), fun _ _ e => e, fun _ _ _ e => e, fun a z => ?_, fun a z => ?_⟩
  · have e : a = p := by simpa using z
    subst e
    exact ⟨n, by rw [upd_same]; simp⟩
  · have e : a = p := by simpa using z
    subst e
    exact .inr hp
  · by_cases y : a = p
    · subst y; exact absurd hp z
    · rw [upd_ne y]; exact z
theorem pe_newT {p : Addr} {vs : List V} {ds : List PyData} {Q : VK} (s : Sub G H) (q : PEnd K G H (.val (.tuple ds)) Q) (h : DpAll K G vs ds) (hp : H p = none) : Q (.ref p) (upd H p (.tup vs)) := by
  have n : G p = none := by
    cases z : G p with
    | none => rfl
    | some o => rw [s p o z] at hp; cases hp
  have kG : ∀ a o, G a = some o → upd G p (.tup vs) a = some o := fun a o e => upd_some e (fun z => by subst z; rw [n] at e; cases e)
  refine q (.ref p) (upd G p (.tup vs)) (upd H p (.tup vs)) [] (.val (.tup (.inl (.inl upd_same)) (DpAll_mono kG h))) ⟨fun a o e => ?_, by simp, .nil⟩ ⟨fun a o e _ => upd_some e (fun z => by subst z; rw [hp] at e; cases e), kG, fun a h _ e => ?_, by simp, fun a z => ?_⟩
  · by_cases y : a = p
    · subst y; rw [upd_same] at e ⊢; exact e
    · rw [upd_ne y] at e ⊢; exact s a o e
  · by_cases y : a = p
    · subst y; exact absurd hp h
    · rw [upd_ne y]; exact e
  · by_cases y : a = p
    · subst y; rw [upd_same]; simp
    · rw [upd_ne y]; exact z
theorem dp_all_ints : ∀ {vs : List V} {ds : List PyData} {ns : List Int}, DpAll K G vs ds → intsOf ds = some ns → vs = ns.map V.int ∧ ds = ns.map PyData.int
  | _, [], _, .nil, e => by cases e; exact ⟨rfl, rfl⟩
  | _, d :: ds, ns, .cons h r, e => by
    cases h with
    | int i =>
      unfold intsOf at e
      cases q : intsOf ds with
      | none => rw [q] at e; cases e
      | some ms =>
        rw [q] at e
        cases e
        obtain ⟨e1, e2⟩ := dp_all_ints r q
        rw [e1, e2]
        exact ⟨rfl, rfl⟩
    | non => cases e
    | bl _ => cases e
    | str _ => cases e
    | lst _ _ => cases e
    | tup _ _ => cases e
theorem dp_all_strs : ∀ {vs : List V} {ds : List PyData} {ns : List Str}, DpAll K G vs ds → strsOf ds = some ns → vs = ns.map V.str ∧ ds = ns.map PyData.str
  | _, [], _, .nil, e => by cases e; exact ⟨rfl, rfl⟩
  | _, d :: ds, ns, .cons h r, e => by
    cases h with
    | str i =>
      unfold strsOf at e
      cases q : strsOf ds with
      | none => rw [q] at e; cases e
      | some ms =>
        rw [q] at e
        cases e
        obtain ⟨e1, e2⟩ := dp_all_strs r q
        rw [e1, e2]
        exact ⟨rfl, rfl⟩
    | non => cases e
    | bl _ => cases e
    | int _ => cases e
    | lst _ _ => cases e
    | tup _ _ => cases e
theorem dp_all_bits : ∀ {vs : List V} {ds : List PyData} {ns : List Bool}, DpAll K G vs ds → bitsOf ds = some ns → vs = ns.map V.bl
  | _, [], _, .nil, e => by cases e; rfl
  | _, d :: ds, ns, .cons h r, e => by
    cases h with
    | bl i =>
      unfold bitsOf at e
      cases q : bitsOf ds with
      | none => rw [q] at e; cases e
      | some ms =>
        rw [q] at e
        cases e
        rw [dp_all_bits r q]
        rfl
    | non => cases e
    | str _ => cases e
    | int _ => cases e
    | lst _ _ => cases e
    | tup _ _ => cases e
theorem dpAll_ints (ns : List Int) : DpAll K G (ns.map V.int) (ns.map PyData.int) := by
  induction ns with
  | nil => exact .nil
  | cons n ns ih => exact .cons (.int n) ih
theorem dpAll_strs (ns : List Str) : DpAll K G (ns.map V.str) (ns.map PyData.str) := by
  induction ns with
  | nil => exact .nil
  | cons n ns ih => exact .cons (.str n) ih
theorem DpAll_get : ∀ {vs : List V} {ds : List PyData} {j : Nat} {d : PyData}, DpAll K G vs ds → ds[j]? = some d → ∃ v, vs[j]? = some v ∧ Dp K G v d
  | _, _, _, _, .nil, e => by simp at e
  | _, _, 0, _, .cons h _, e => by cases e; exact ⟨_, rfl, h⟩
  | _, _, j + 1, _, .cons _ r, e => DpAll_get (j := j) r (by simpa using e)
theorem DpAll_drop : ∀ {vs : List V} {ds : List PyData} (j : Nat), DpAll K G vs ds → DpAll K G (vs.drop j) (ds.drop j)
  | _, _, _, .nil => by simpa using DpAll.nil
  | _, _, 0, .cons h r => .cons h r
  | _, _, j + 1, .cons _ r => DpAll_drop j r
theorem DpAll_take : ∀ {vs : List V} {ds : List PyData} (j : Nat), DpAll K G vs ds → DpAll K G (vs.take j) (ds.take j)
  | _, _, _, .nil => by simpa using DpAll.nil
  | _, _, 0, .cons h r => .nil
  | _, _, j + 1, .cons h r => .cons h (DpAll_take j r)
theorem DpAll_rev : ∀ {vs : List V} {ds : List PyData}, DpAll K G vs ds → DpAll K G vs.reverse ds.reverse
  | _, _, .nil => .nil
  | _, _, .cons h r => by
    rw [List.reverse_cons, List.reverse_cons]
    exact DpAll_append (DpAll_rev r) (.cons h .nil)
theorem DpAll_rep {vs : List V} {ds : List PyData} (h : DpAll K G vs ds) : ∀ n : Nat, DpAll K G (List.replicate n vs).flatten (List.replicate n ds).flatten
  | 0 => .nil
  | n + 1 => by
    rw [List.replicate_succ, List.replicate_succ, List.flatten_cons, List.flatten_cons]
    exact DpAll_append h (DpAll_rep h n)
theorem atI_dp {vs : List V} {ds : List PyData} {i : Int} {d : PyData} (h : DpAll K G vs ds) (e : atI ds i = some d) : ∃ v, atI vs i = some v ∧ Dp K G v d := by
  unfold atI at e ⊢
  rw [DpAll_len h]
  cases q : ixN ds.length i with
  | none => rw [q] at e; cases e
  | some j =>
    rw [q] at e
    exact DpAll_get h e
theorem dp_flat {v : V} {d : PyData} (h : Dp K G v d) (f : flatD d = true) : flatV v = true := by
  cases h <;> first | rfl | cases f
theorem dp_flats : ∀ {vs : List V} {ds : List PyData}, DpAll K G vs ds → ds.all flatD = true → vs.all flatV = true
  | _, _, .nil, _ => rfl
  | _, _, .cons h r, f => by
    rw [List.all_cons, Bool.and_eq_true] at f ⊢
    exact ⟨dp_flat h f.1, dp_flats r f.2⟩
theorem eqV_eqv {v w : V} {d e : PyData} (h : Dp K G v d) (h' : Dp K G w e) (f : flatD d = true) (f' : flatD e = true) : eqV v w = PyData.eqv d e := by
  cases h <;> cases h' <;> first | rfl | cases f | cases f' | (simp [eqV, PyData.eqv])
theorem inV_in {v : V} {a : PyData} (h : Dp K G v a) (f : flatD a = true) : ∀ {vs : List V} {ds : List PyData}, DpAll K G vs ds → ds.all flatD = true → inV v vs = ds.any fun z => PyData.eqv z a
  | _, _, .nil, _ => rfl
  | _, _, .cons h1 r, f1 => by
    rw [List.all_cons, Bool.and_eq_true] at f1
    show (eqV _ v || inV v _) = (PyData.eqv _ a || _)
    rw [eqV_eqv h1 h f1.1 f, inV_in h f r f1.2]
theorem scal_of {v w : V} {d e : PyData} (h : Dp K G v d) (h' : Dp K G w e) (f : scD d e = true) : scal v w = true ∧ decide (v = w) = PyData.eqv d e := by
  cases h <;> cases h' <;> first
    | (refine ⟨rfl, ?_⟩
       first
         | rfl
         | (simp [PyData.eqv]; done)
         | (rw [Bool.eq_iff_iff]; simp [PyData.eqv]; done))
    | (exfalso; revert f; unfold scD; simp; done)
theorem pr1 {x : V} {ds : List PyData} (h : Paired (RepP K G H) [x] ds) : ∃ a, ds = [a] ∧ RepP K G H x a := by
  cases h with
  | cons r t => cases t; exact ⟨_, rfl, r⟩
theorem pr2 {x y : V} {ds : List PyData} (h : Paired (RepP K G H) [x, y] ds) : ∃ a b, ds = [a, b] ∧ RepP K G H x a ∧ RepP K G H y b := by
  cases h with
  | cons r t =>
    obtain ⟨b, rfl, r2⟩ := pr1 t
    exact ⟨_, _, rfl, r, r2⟩
theorem pr3 {x y z : V} {ds : List PyData} (h : Paired (RepP K G H) [x, y, z] ds) : ∃ a b c, ds = [a, b, c] ∧ RepP K G H x a ∧ RepP K G H y b ∧ RepP K G H z c := by
  cases h with
  | cons r t =>
    obtain ⟨b, c, rfl, r2, r3⟩ := pr2 t
    exact ⟨_, _, _, rfl, r, r2, r3⟩
theorem prx1 {xs : List V} {a : PyData} (h : Paired (RepP K G H) xs [a]) : ∃ x, xs = [x] ∧ RepP K G H x a := by
  cases h with
  | cons r t => cases t; exact ⟨_, rfl, r⟩
theorem prx2 {xs : List V} {a b : PyData} (h : Paired (RepP K G H) xs [a, b]) : ∃ x y, xs = [x, y] ∧ RepP K G H x a ∧ RepP K G H y b := by
  cases h with
  | cons r t =>
    obtain ⟨y, rfl, r2⟩ := prx1 t
    exact ⟨_, _, rfl, r, r2⟩
end


section
variable {X : Cx}
theorem line_of {n : Nat} (h : lineB n = true) : n ≤ sizeLine := of_decide_eq_true h
theorem op_catL : OpR X (binaryOp .Add) (fun x y H Q => ∃ l b xs zs, x = .ref l ∧ y = .ref b ∧ SqL X.K H l xs ∧ SqL X.K H b zs ∧ xs.length + zs.length ≤ sizeLine ∧ ∀ p, H p = none → Q (.ref p) (upd H p (.lst (xs ++ zs)))) := by
  intro pins s σ H x y v u Q I rx ry h
  obtain ⟨l, b, xs, zs, rfl, rfl, hH, hB, hz, q⟩ := h
  cases rx
  cases ry
  obtain ⟨its, r, ⟨o1, n, e, c1, d1, k1⟩, z⟩ := I.list hH
  obtain ⟨its2, r2, ⟨o2, n2, e2, c2, d2, k2⟩, z2⟩ := I.list hB
  obtain ⟨oc1, od1, dt1, sl1⟩ := o1
  obtain ⟨oc2, od2, dt2, sl2⟩ := o2
  dsimp only at c1 d1 k1 c2 d2 k2
  subst c1 d1 k1 c2 d2 k2
  have hl := r.length
  have hl2 := r2.length
  refine concat_meets ⟨_, e, rfl⟩ ⟨_, e2, rfl⟩ noFill_list_add seq_list_add PySem.F.slot_list_add PySem.F.entry_list_add (PySem.F.args_list_add_2 _ _) (list_addW l b its.toArray its2.toArray n n2 none none sl1 sl2 (by simp; omega)) ⟨e, e2, ?_⟩
  have ea : its.toArray ++ its2.toArray = (its ++ its2).toArray := by simp
  rw [ea]
  exact ⟨.ref _, _, I.lnew (t' := s.toks) (r.append r2) (by rw [List.length_append]; omega), rfl, q _ I.fresh⟩
theorem rl_add : OpR X (binaryOp .Add) (Prim2 X.K dAdd) := by
  intro pins s σ H x y v u Q I rx ry h
  obtain ⟨G, ds, s', sub, pr, e, q⟩ := h
  obtain ⟨a, b, rfl, ra, rb⟩ := pr2 pr
  unfold dAdd at e
  split at e
  · rename_i ea; cases ea; cases e
    exact op_add pins s σ H x y v u Q I rx ry ⟨_, _, rp_int ra, rp_int rb, pe_val sub q (.int _)⟩
  · rename_i ea; cases ea
    split at e
    · rename_i c; cases e
      exact op_add_str pins s σ H x y v u Q I rx ry ⟨_, _, rp_str ra, rp_str rb, line_of c, pe_val sub q (.str _)⟩
    · cases e
  · rename_i ea; cases ea
    split at e
    · rename_i c; cases e
      obtain ⟨a1, v1, rfl, h1, k1⟩ := rp_lst sub ra
      obtain ⟨a2, v2, rfl, h2, k2⟩ := rp_lst sub rb
      exact op_catL pins s σ H _ _ v u Q I rx ry ⟨_, _, _, _, rfl, rfl, h1, h2, by rw [DpAll_len k1, DpAll_len k2]; exact line_of c, fun p hp => pe_newL sub q (DpAll_append k1 k2) hp⟩
    · cases e
  · rename_i ea; cases ea
    split at e
    · rename_i c; cases e
      have da : Dp X.K G x (.tuple _) := ra.resolve_right fun ⟨_, _, _, _, z, _⟩ => by cases z
      have db : Dp X.K G y (.tuple _) := rb.resolve_right fun ⟨_, _, _, _, z, _⟩ => by cases z
      obtain ⟨a1, v1, rfl, h1, k1⟩ := dp_tup da
      obtain ⟨a2, v2, rfl, h2, k2⟩ := dp_tup db
      refine op_catA pins s σ H _ _ v u Q I rx ry ⟨_, _, _, _, rfl, rfl, seqT_mono sub h1, seqT_mono sub h2, by rw [DpAll_len k1, DpAll_len k2]; exact line_of c, fun z => ?_, fun _ z => ?_, fun _ _ p hp => pe_newT sub q (DpAll_append k1 k2) hp⟩
      · subst z; cases k1; exact pe_val sub q db
      · subst z; cases k2; exact pe_val sub q (by rw [List.append_nil]; exact da)
    · cases e
  · cases e
theorem dII_of {f : Int → Int → Option Sl} {ds : List PyData} {s : Sl} (h : dII f ds = some s) : ∃ i j, ds = [.int i, .int j] ∧ f i j = some s := by
  unfold dII at h
  split at h
  · exact ⟨_, _, rfl, h⟩
  · cases h
theorem rII {F : Value → Value → Sem Value} {C : Int → Int → Prop} {g : Int → Int → V} {f : Int → Int → Option Sl} (ho : OpR X F (rI C g)) (hf : ∀ i j s, f i j = some s → C i j ∧ ∃ d, s = .val d ∧ ∀ K G, Dp K G (g i j) d) : OpR X F (Prim2 X.K (dII f)) := by
  intro pins s σ H x y v u Q I rx ry h
  obtain ⟨G, ds, s', sub, pr, e, q⟩ := h
  obtain ⟨i, j, rfl, e⟩ := dII_of e
  obtain ⟨a, b, e2, ra, rb⟩ := pr2 pr
  cases e2
  obtain ⟨c, d, rfl, hd⟩ := hf i j s' e
  exact ho pins s σ H x y v u Q I rx ry ⟨i, j, rp_int ra, rp_int rb, c, pe_val sub q (hd _ _)⟩
theorem rII0 {F : Value → Value → Sem Value} {g : Int → Int → V} {f : Int → Int → Option Sl} (ho : OpR X F (rI0 g)) (hf : ∀ i j s, f i j = some s → ∃ d, s = .val d ∧ ∀ K G, Dp K G (g i j) d) : OpR X F (Prim2 X.K (dII f)) :=
  rII (C := fun _ _ => True) (fun pins s σ H x y v u Q I rx ry ⟨i, j, e1, e2, _, q⟩ => ho pins s σ H x y v u Q I rx ry ⟨i, j, e1, e2, q⟩) fun i j s h => ⟨trivial, hf i j s h⟩
theorem rl_sub : OpR X (binaryOp .Sub) (Prim2 X.K dSub) := rII0 op_sub fun i j s h => by cases h; exact ⟨_, rfl, fun _ _ => .int _⟩
theorem rl_mul : OpR X (binaryOp .Mult) (Prim2 X.K dMul) := rII op_mul fun i j s h => by
  split at h
  · rename_i c
    cases h
    refine ⟨?_, _, rfl, fun _ _ => .int _⟩
    rcases Bool.or_eq_true_iff.mp c with c | c
    · exact .inl (of_decide_eq_true c)
    · exact .inr (of_decide_eq_true c)
  · cases h
theorem rl_fdiv : OpR X (binaryOp .FloorDiv) (Prim2 X.K dFdiv) := rII op_fdiv fun i j s h => by
  split at h
  · rename_i c; cases h; exact ⟨c, _, rfl, fun _ _ => .int _⟩
  · cases h
theorem rl_mod : OpR X (binaryOp .Mod) (Prim2 X.K dMod) := rII op_mod fun i j s h => by
  split at h
  · rename_i c; cases h; exact ⟨c, _, rfl, fun _ _ => .int _⟩
  · cases h
theorem rl_pow : OpR X (binaryOp .Pow) (Prim2 X.K dPow) := rII op_pow fun i j s h => by
  split at h
  · rename_i c; cases h; exact ⟨c, _, rfl, fun _ _ => .int _⟩
  · cases h
theorem rl_lt : OpR X (compareOp .Lt) (Prim2 X.K (den .lt)) := rII0 op_lt fun i j s h => by cases h; exact ⟨_, rfl, fun _ _ => .bl _⟩
theorem rl_le : OpR X (compareOp .LtE) (Prim2 X.K (den .le)) := rII0 op_le fun i j s h => by cases h; exact ⟨_, rfl, fun _ _ => .bl _⟩
theorem rl_gt : OpR X (compareOp .Gt) (Prim2 X.K (den .gt)) := rII0 op_gt fun i j s h => by cases h; exact ⟨_, rfl, fun _ _ => .bl _⟩
theorem rl_ge : OpR X (compareOp .GtE) (Prim2 X.K (den .ge)) := rII0 op_ge fun i j s h => by cases h; exact ⟨_, rfl, fun _ _ => .bl _⟩
theorem dp_flatten {G H : Hp} {v : V} {d : PyData} (sub : Sub G H) (h : RepP X.K G H v d) : Dp X.K H v d := rp_dp sub h
theorem rl_eq (hu : X.A.units + 64 < cLine) : OpR X (compareOp .Eq) (Prim2 X.K dEq) := by
  intro pins s σ H x y v u Q I rx ry h
  obtain ⟨G, ds, s', sub, pr, e, q⟩ := h
  obtain ⟨a, b, rfl, ra, rb⟩ := pr2 pr
  unfold dEq eqD at e
  dsimp only at e
  have da := rp_dp sub ra
  have db := rp_dp sub rb
  split at e
  · rename_i c
    cases e
    rcases Bool.or_eq_true_iff.mp c with c | c
    · obtain ⟨s1, s2⟩ := scal_of da db c
      exact op_eq pins s σ H x y v u Q I rx ry ⟨s1, by rw [s2]; exact pe_val sub q (.bl _)⟩
    · obtain ⟨c1, c2⟩ := Bool.and_eq_true_iff.mp c
      exact op_eqD hu pins s σ H x y v u Q I rx ry ⟨a, b, da, db, c1, c2, pe_val sub q (.bl _)⟩
  · cases e
theorem rl_ne (hu : X.A.units + 64 < cLine) : OpR X (compareOp .NotEq) (Prim2 X.K dNe) := by
  intro pins s σ H x y v u Q I rx ry h
  obtain ⟨G, ds, s', sub, pr, e, q⟩ := h
  obtain ⟨a, b, rfl, ra, rb⟩ := pr2 pr
  unfold dNe eqD at e
  dsimp only at e
  have da := rp_dp sub ra
  have db := rp_dp sub rb
  split at e
  · rename_i c
    cases e
    rcases Bool.or_eq_true_iff.mp c with c | c
    · obtain ⟨s1, s2⟩ := scal_of da db c
      exact op_ne pins s σ H x y v u Q I rx ry ⟨s1, by rw [s2]; exact pe_val sub q (.bl _)⟩
    · obtain ⟨c1, c2⟩ := Bool.and_eq_true_iff.mp c
      exact op_neD hu pins s σ H x y v u Q I rx ry ⟨a, b, da, db, c1, c2, pe_val sub q (.bl _)⟩
  · cases e
/-- in, not in -/
theorem rl_inG (neg : Bool) {op : CmpOp} (hs : OpR X (compareOp op) (rIn X.K neg)) (hd : OpR X (compareOp op) (fun x y H Q => ∃ d ds, Dp X.K H x d ∧ Dp X.K H y (.list ds) ∧ SeqAt.shaped d = true ∧ SeqAt.shaped (.list ds) = true ∧ Q (.bl (if neg then !(ds.any fun z => PyData.eqv z d) else ds.any fun z => PyData.eqv z d)) H))
    (hc : OpR X (compareOp op) (fun x y H Q => ∃ (c : Nat) (z : Str), x = .str ⟨#[c]⟩ ∧ y = .str z ∧ Q (.bl (if neg then !decide (c ∈ z.cps.toList) else decide (c ∈ z.cps.toList))) H)) :
    OpR X (compareOp op) (Prim2 X.K fun ds => match ds with
      | [a, b] => (inD a b).map fun k => vB (if neg then !k else k)
      | _ => none) := by
  intro pins s σ H x y v u Q I rx ry h
  obtain ⟨G, ds, s', sub, pr, e, q⟩ := h
  obtain ⟨a, b, rfl, ra, rb⟩ := pr2 pr
  dsimp only at e
  have da := rp_dp sub ra
  obtain ⟨k, ek, es⟩ : ∃ k, inD a b = some k ∧ vB (if neg then !k else k) = s' := by
    cases z : inD a b with
    | none => rw [z] at e; cases e
    | some k => rw [z] at e; exact ⟨k, rfl, Option.some.inj e⟩
  subst es
  have fin : ∀ k0, k0 = k → Q (.bl (if neg then !k0 else k0)) H := fun k0 z => by subst z; exact pe_val sub q (.bl _)
  cases b with
  | list xs =>
    simp only [inD] at ek
    split at ek
    · rename_i c
      cases ek
      obtain ⟨a1, v1, rfl, h1, k1⟩ := rp_lst sub rb
      rcases Bool.or_eq_true_iff.mp c with c | c
      · obtain ⟨c1, c2⟩ := Bool.and_eq_true_iff.mp c
        exact hs pins s σ H x _ v u Q I rx ry ⟨a1, v1, rfl, .inl h1, dp_flat da c1, dp_flats k1 c2, fin _ (inV_in da c1 (DpAll_mono sub k1) c2)⟩
      · obtain ⟨c1, c2⟩ := Bool.and_eq_true_iff.mp c
        exact hd pins s σ H x _ v u Q I rx ry ⟨a, xs, da, .lst h1 (DpAll_mono sub k1), c1, c2, fin _ rfl⟩
    · cases ek
  | tuple xs =>
    simp only [inD] at ek
    split at ek
    · rename_i c
      cases ek
      obtain ⟨a1, v1, rfl, h1, k1⟩ := rp_tup sub rb
      obtain ⟨c1, c2⟩ := Bool.and_eq_true_iff.mp c
      exact hs pins s σ H x _ v u Q I rx ry ⟨a1, v1, rfl, .inr h1, dp_flat da c1, dp_flats k1 c2, fin _ (inV_in da c1 (DpAll_mono sub k1) c2)⟩
    · cases ek
  | str z =>
    simp only [inD] at ek
    split at ek
    · rename_i x0
      split at ek
      · rename_i c ec
        cases ek
        have ex : x0 = ⟨#[c]⟩ := Str.ext' (Array.toList_inj.mp (by rw [ec]))
        exact hc pins s σ H x y v u Q I rx ry ⟨c, z, by rw [rp_str ra, ex], rp_str rb, fin _ rfl⟩
      · cases ek
    · cases ek
  | none => cases ek
  | bool _ => cases ek
  | int _ => cases ek
  | dict _ => cases ek
theorem rl_in (hu : X.A.units + 65 < cLine) : OpR X (compareOp .In) (Prim2 X.K dIn) := by
  have h := rl_inG (X := X) false op_in_seq (op_inD hu) op_in_sign
  have e : dIn = fun ds => match ds with
      | [a, b] => (inD a b).map fun k => vB (if false then !k else k)
      | _ => none := by
    funext ds
    unfold dIn
    rfl
  rw [e]
  exact h
theorem rl_notin (hu : X.A.units + 65 < cLine) : OpR X (compareOp .NotIn) (Prim2 X.K dNotIn) := by
  have h := rl_inG (X := X) true op_notIn_seq (op_notInD hu) op_notIn_sign
  exact h
end
end PyI

namespace PyI
open PySem PySem.Spec PyProof.Rows L2
section
variable {X : Cx}
theorem rl_neg : UnR X (unaryOp .USub) (fun x H Q => PrimR X.K dNeg [x] H Q) := by
  intro pins s σ H x v Q I rx h
  obtain ⟨G, ds, s', sub, pr, e, q⟩ := h
  obtain ⟨a, rfl, ra⟩ := pr1 pr
  cases a with
  | int i => cases e; exact un_neg pins s σ H x v Q I rx ⟨i, rp_int ra, pe_val sub q (.int _)⟩
  | none => cases e
  | bool _ => cases e
  | str _ => cases e
  | list _ => cases e
  | tuple _ => cases e
  | dict _ => cases e
theorem rp_isN {G H : Hp} {x : V} {a : PyData} (h : RepP X.K G H x a) : decide (x = .non) = isNone a := by
  rcases h with h | ⟨_, _, _, rfl, rfl, _⟩
  · cases h <;> rfl
  · rfl
theorem rl_isN : OpR X (compareOp .Is) (fun x y H Q => y = .non ∧ PrimR X.K dIsN [x] H Q) := by
  intro pins s σ H x y v u Q I rx ry h
  obtain ⟨ey, G, ds, s', sub, pr, e, q⟩ := h
  obtain ⟨a, rfl, ra⟩ := pr1 pr
  cases e
  exact op_isN pins s σ H x y v u Q I rx ry ⟨ey, by rw [rp_isN ra]; exact pe_val sub q (.bl _)⟩
theorem rl_notN : OpR X (compareOp .IsNot) (fun x y H Q => y = .non ∧ PrimR X.K dNotN [x] H Q) := by
  intro pins s σ H x y v u Q I rx ry h
  obtain ⟨ey, G, ds, s', sub, pr, e, q⟩ := h
  obtain ⟨a, rfl, ra⟩ := pr1 pr
  cases e
  exact op_notN pins s σ H x y v u Q I rx ry ⟨ey, by rw [rp_isN ra]; exact pe_val sub q (.bl _)⟩
theorem rl_ix : IxR X (Prim2 X.K dIx) := by
  intro va sl pins s σ H x y v u Q I rx ry h hs
  obtain ⟨G, ds, s', sub, pr, e, q⟩ := h
  obtain ⟨a, b, rfl, ra, rb⟩ := pr2 pr
  refine ix_seq va sl pins s σ H x y v u Q I rx ry ?_ hs
  unfold dIx at e
  split at e
  · rename_i xs i ea
    cases ea
    cases z : atI xs i with
    | none => rw [z] at e; cases e
    | some d =>
      rw [z] at e
      cases e
      obtain ⟨a1, v1, rfl, h1, k1⟩ := rp_lst sub ra
      obtain ⟨w, hw, dw⟩ := atI_dp k1 z
      exact .inl ⟨_, _, _, _, rfl, rp_int rb, h1, hw, pe_val sub q dw⟩
  · rename_i xs i ea
    cases ea
    cases z : atI xs i with
    | none => rw [z] at e; cases e
    | some d =>
      rw [z] at e
      cases e
      obtain ⟨a1, v1, rfl, h1, k1⟩ := rp_tup sub ra
      obtain ⟨w, hw, dw⟩ := atI_dp k1 z
      exact .inr (.inl ⟨_, _, _, _, rfl, rp_int rb, h1, hw, pe_val sub q dw⟩)
  · rename_i t i ea
    cases ea
    split at e
    · rename_i c
      cases z : atI t.cps.toList i with
      | none => rw [z] at e; cases e
      | some k =>
        rw [z] at e
        cases e
        exact .inr (.inr ⟨_, _, _, rp_str ra, rp_int rb, line_of c, z, pe_val sub q (.str _)⟩)
    · cases e
  · cases e
/-- slices by what the parts are -/
theorem cut_dp {G : Hp} {vs : List V} {ds : List PyData} (h : DpAll X.K G vs ds) (lo hi : Option Int) : DpAll X.K G (cutV vs lo hi) (cutD ds lo hi) := by
  unfold cutV cutD
  rw [DpAll_len h]
  exact DpAll_take _ (DpAll_drop _ h)
def SlP (K : PySem.W.Frag) : V → Option Int → Option Int → Hp → VK → Prop := fun x lo hi H Q => ∃ G d s, Sub G H ∧ RepP K G H x d ∧ slD d lo hi = some s ∧ PEnd K G H s Q
theorem rl_sl : SlR X (SlP X.K) := by
  intro pins s σ H x v vl vu lo hi sl Q I rx hs pl pu h
  obtain ⟨G, d, s', sub, ra, e, q⟩ := h
  cases d with
  | list xs =>
    cases e
    obtain ⟨a1, v1, rfl, h1, k1⟩ := rp_lst sub ra
    exact sl_list pins s σ H _ v vl vu lo hi sl Q I rx hs pl pu ⟨_, _, rfl, h1, fun p hp => pe_newL sub q (cut_dp k1 lo hi) hp⟩
  | tuple xs =>
    cases e
    have da : Dp X.K G x (.tuple _) := ra.resolve_right fun ⟨_, _, _, _, z, _⟩ => by cases z
    obtain ⟨a1, v1, rfl, h1, k1⟩ := dp_tup da
    refine sl_tupA pins s σ H _ v vl vu lo hi sl Q I rx hs pl pu ⟨_, _, rfl, seqT_mono sub h1, fun ⟨z1, z2⟩ => ?_, fun _ p hp => pe_newT sub q (cut_dp k1 lo hi) hp⟩
    have ec : cutD xs lo hi = xs := by
      unfold cutD
      rw [← DpAll_len k1, z1, z2]
      simp [DpAll_len k1]
    rw [ec] at q
    exact pe_val sub q da
  | str z =>
    simp only [slD] at e
    split at e
    · rename_i c
      cases e
      exact sl_str pins s σ H _ v vl vu lo hi sl Q I rx hs pl pu ⟨z, rp_str ra, line_of c, pe_val sub q (.str _)⟩
    · cases e
  | none => cases e
  | bool _ => cases e
  | int _ => cases e
  | dict _ => cases e
/-! built-in functions -/
theorem rl_len : CallR X (.builtin "len") (PrimR X.K dLen) := by
  intro pins s σ H xs us Q I r h
  obtain ⟨G, ds, s', sub, pr, e, q⟩ := h
  refine call_len pins s σ H xs us Q I r ?_
  unfold dLen at e
  split at e
  · cases e
    obtain ⟨x, rfl, ra⟩ := prx1 pr
    obtain ⟨a1, v1, rfl, h1, k1⟩ := rp_lst sub ra
    exact ⟨_, _, rfl, .inl ⟨_, h1, rfl⟩, by rw [DpAll_len k1]; exact pe_val sub q (.int _)⟩
  · cases e
    obtain ⟨x, rfl, ra⟩ := prx1 pr
    obtain ⟨a1, v1, rfl, h1, k1⟩ := rp_tup sub ra
    exact ⟨_, _, rfl, .inr ⟨_, h1, rfl⟩, by rw [DpAll_len k1]; exact pe_val sub q (.int _)⟩
  · split at e
    · rename_i c
      cases e
      obtain ⟨x, rfl, ra⟩ := prx1 pr
      rw [rp_str ra]
      exact ⟨_, _, rfl, ⟨line_of c, rfl⟩, pe_val sub q (.int _)⟩
    · cases e
  · cases e
theorem rl_all (hc : X.calm = true) : CallR X (.builtin "all") (PrimR X.K dAll) := by
  intro pins s σ H xs us Q I r h
  obtain ⟨G, ds, s', sub, pr, e, q⟩ := h
  unfold dAll at e
  split at e
  · rename_i ys
    obtain ⟨x, rfl, ra⟩ := prx1 pr
    obtain ⟨a1, v1, rfl, h1, k1⟩ := rp_lst sub ra
    cases z : bitsOf ys with
    | none => rw [z] at e; cases e
    | some bs =>
      rw [z] at e
      cases e
      rw [dp_all_bits k1 z] at h1
      exact cr_all hc pins s σ H _ us Q I r ⟨a1, bs, rfl, h1, pe_val sub q (.bl _)⟩
  · cases e
theorem rl_any (hc : X.calm = true) : CallR X (.builtin "any") (PrimR X.K dAny) := by
  intro pins s σ H xs us Q I r h
  obtain ⟨G, ds, s', sub, pr, e, q⟩ := h
  unfold dAny at e
  split at e
  · rename_i ys
    obtain ⟨x, rfl, ra⟩ := prx1 pr
    obtain ⟨a1, v1, rfl, h1, k1⟩ := rp_lst sub ra
    cases z : bitsOf ys with
    | none => rw [z] at e; cases e
    | some bs =>
      rw [z] at e
      cases e
      rw [dp_all_bits k1 z] at h1
      exact cr_any hc pins s σ H _ us Q I r ⟨a1, bs, rfl, h1, pe_val sub q (.bl _)⟩
  · cases e
theorem rl_abs : CallR X (.builtin "abs") (PrimR X.K dAbs) := by
  intro pins s σ H xs us Q I r h
  obtain ⟨G, ds, s', sub, pr, e, q⟩ := h
  unfold dAbs at e
  split at e
  · cases e
    obtain ⟨x, rfl, ra⟩ := prx1 pr
    rw [rp_int ra] at r
    exact call_abs pins s σ H _ us Q I r ⟨_, rfl, pe_val sub q (.int _)⟩
  · cases e
theorem rl_sum (hc : X.calm = true) : CallR X (.builtin "sum") (PrimR X.K dSum) := by
  intro pins s σ H xs us Q I r h
  obtain ⟨G, ds, s', sub, pr, e, q⟩ := h
  unfold dSum at e
  split at e
  · rename_i ys
    obtain ⟨x, rfl, ra⟩ := prx1 pr
    obtain ⟨a1, v1, rfl, h1, k1⟩ := rp_lst sub ra
    cases z : intsOf ys with
    | none => rw [z] at e; cases e
    | some bs =>
      rw [z] at e
      cases e
      rw [(dp_all_ints k1 z).1] at h1
      exact cr_sum hc pins s σ H _ us Q I r ⟨a1, bs, rfl, h1, pe_val sub q (.int _)⟩
  · cases e
theorem rl_tupleOf : CallR X (.type "tuple") (PrimR X.K dTupleOf) := by
  intro pins s σ H xs us Q I r h
  obtain ⟨G, ds, s', sub, pr, e, q⟩ := h
  unfold dTupleOf at e
  split at e
  · cases e
    obtain ⟨x, rfl, ra⟩ := prx1 pr
    obtain ⟨a1, v1, rfl, h1, k1⟩ := rp_lst sub ra
    exact call_tuple_of pins s σ H _ us Q I r ⟨_, _, rfl, .inl ⟨h1, fun p hp => pe_newT sub q k1 hp⟩⟩
  · cases e
    obtain ⟨x, rfl, ra⟩ := prx1 pr
    have da : Dp X.K G x (.tuple _) := ra.resolve_right fun ⟨_, _, _, _, z, _⟩ => by cases z
    obtain ⟨a1, v1, rfl, h1, k1⟩ := dp_tup da
    exact call_tuple_of pins s σ H _ us Q I r ⟨_, _, rfl, .inr ⟨seqT_mono sub h1, pe_val sub q da⟩⟩
  · cases e
theorem rl_listOf : CallR X (.type "list") (PrimR X.K dListOf) := by
  intro pins s σ H xs us Q I r h
  obtain ⟨G, ds, s', sub, pr, e, q⟩ := h
  unfold dListOf at e
  split at e
  · cases e
    obtain ⟨x, rfl, ra⟩ := prx1 pr
    obtain ⟨a1, v1, rfl, h1, k1⟩ := rp_lst sub ra
    exact call_list_of pins s σ H _ us Q I r ⟨_, _, rfl, .inl h1, fun p hp => pe_newL sub q k1 hp⟩
  · cases e
    obtain ⟨x, rfl, ra⟩ := prx1 pr
    obtain ⟨a1, v1, rfl, h1, k1⟩ := rp_tup sub ra
    exact call_list_of pins s σ H _ us Q I r ⟨_, _, rfl, .inr h1, fun p hp => pe_newL sub q k1 hp⟩
  · cases e
theorem isort_uniq {ns ns' : List Int} (p : ns'.Perm ns) (h : ns'.Pairwise (· ≤ ·)) : ns' = isortI ns := by
  have p2 : ns'.Perm (isortI ns) := p.trans (List.mergeSort_perm ns (fun a b => decide (a ≤ b))).symm
  have h2 : (isortI ns).Pairwise (· ≤ ·) := by
    have := List.pairwise_mergeSort (le := fun a b : Int => decide (a ≤ b)) (fun a b c h1 h2 => by simp at *; omega) (fun a b => by simp; omega) ns
    exact this.imp (by simp)
  exact p2.eq_of_pairwise (fun a b _ _ h1 h2 => Int.le_antisymm h1 h2) h h2
theorem rl_sorted : CallR X (.builtin "sorted") (PrimR X.K dSorted) := by
  intro pins s σ H xs us Q I r h
  obtain ⟨G, ds, s', sub, pr, e, q⟩ := h
  unfold dSorted at e
  split at e
  · rename_i ys
    obtain ⟨x, rfl, ra⟩ := prx1 pr
    obtain ⟨a1, v1, rfl, h1, k1⟩ := rp_lst sub ra
    cases z : intsOf ys with
    | none => rw [z] at e; cases e
    | some bs =>
      rw [z] at e
      cases e
      rw [(dp_all_ints k1 z).1] at h1
      refine cr_sortedI pins s σ H _ us Q I r ⟨a1, bs, rfl, h1, fun ns' p pm ps hp => ?_⟩
      rw [isort_uniq pm ps]
      exact pe_newL sub q (dpAll_ints _) hp
  · cases e
theorem rl_int : CallR X (.type "int") (PrimR X.K dInt) := by
  intro pins s σ H xs us Q I r h
  obtain ⟨G, ds, s', sub, pr, e, q⟩ := h
  unfold dInt at e
  split at e
  · cases e
    obtain ⟨x, rfl, ra⟩ := prx1 pr
    rw [rp_int ra] at r
    exact call_int1 pins s σ H _ us Q I r (.inl ⟨_, rfl, pe_val sub q (.int _)⟩)
  · cases e
    obtain ⟨x, rfl, ra⟩ := prx1 pr
    rw [rp_bl ra] at r
    exact call_int1 pins s σ H _ us Q I r (.inr ⟨_, rfl, pe_val sub q (.int _)⟩)
  · rename_i z
    obtain ⟨x, rfl, ra⟩ := prx1 pr
    rw [rp_str ra] at r
    split at e
    · rename_i n hn
      split at e
      · rename_i c
        cases e
        exact call_int_str pins s σ H _ us Q I r ⟨z, n, rfl, hn, c, pe_val sub q (.int _)⟩
      · cases e
    · cases e
  · cases e
theorem rl_str : CallR X (.type "str") (PrimR X.K dStr) := by
  intro pins s σ H xs us Q I r h
  obtain ⟨G, ds, s', sub, pr, e, q⟩ := h
  unfold dStr at e
  split at e
  · split at e
    · rename_i c
      cases e
      obtain ⟨x, rfl, ra⟩ := prx1 pr
      rw [rp_int ra] at r
      exact call_str_int pins s σ H _ us Q I r ⟨_, rfl, c, pe_val sub q (.str _)⟩
    · cases e
  · cases e
theorem rl_min2 (hc : X.calm = true) : CallR X (.builtin "min") (PrimR X.K dMin2) := by
  intro pins s σ H xs us Q I r h
  obtain ⟨G, ds, s', sub, pr, e, q⟩ := h
  obtain ⟨i, j, rfl, e⟩ := dII_of e
  obtain ⟨x, y, rfl, ra, rb⟩ := prx2 pr
  cases e
  rw [rp_int ra, rp_int rb] at r
  exact call_min2 hc pins s σ H _ us Q I r ⟨_, _, rfl, pe_val sub q (.int _)⟩
theorem rl_max2 (hc : X.calm = true) : CallR X (.builtin "max") (PrimR X.K dMax2) := by
  intro pins s σ H xs us Q I r h
  obtain ⟨G, ds, s', sub, pr, e, q⟩ := h
  obtain ⟨i, j, rfl, e⟩ := dII_of e
  obtain ⟨x, y, rfl, ra, rb⟩ := prx2 pr
  cases e
  rw [rp_int ra, rp_int rb] at r
  exact call_max2 hc pins s σ H _ us Q I r ⟨_, _, rfl, pe_val sub q (.int _)⟩
/-! isinstance -/
def kinds : List String := ["int", "bool", "str", "list", "tuple"]
theorem kitT : ∀ s ∈ ["NoneType", "bool", "int", "str", "list", "tuple"], ∀ t ∈ kinds, kitB s t = some (isiS s t) := by decide +kernel
theorem kit_at (d : PyData) (t : String) (h : t ∈ kinds) (hd : match d with
    | .dict _ => False
    | _ => True) : kitB (tyOf d) t = some (isiB d t) := by
  refine kitT (tyOf d) ?_ t h
  cases d <;> first
    | exact hd.elim
    | (simp [tyOf])
theorem ty_of {G H : Hp} {x : V} {d : PyData} (sub : Sub G H) (h : RepP X.K G H x d) : TyX X.K H x (.type (tyOf d)) ∧ (match d with
    | .dict _ => False
    | _ => True) := by
  have h := rp_dp sub h
  cases h with
  | non => exact ⟨.base .non, trivial⟩
  | bl b => exact ⟨.base (.bl b), trivial⟩
  | int i => exact ⟨.base (.int i), trivial⟩
  | str z => exact ⟨.base (.str z), trivial⟩
  | lst hl _ =>
    refine ⟨?_, trivial⟩
    rcases hl with (h1 | ⟨o, h1⟩) | ⟨o, its, n, k, c, _⟩
    · exact .base (.lst h1)
    · exact .base (.frz h1)
    · exact .kList k c
  | tup hl _ =>
    refine ⟨?_, trivial⟩
    rcases hl with (h1 | ⟨o, h1⟩) | ⟨o, its, n, k, c, _⟩
    · exact .base (.tup h1)
    · exact .fTuple h1
    · exact .kTuple k c
/-! methods -/
theorem rl_join : MtR X "str.join" (fun x xs H Q => PrimR X.K dJoin (x :: xs) H Q) := by
  intro pins s σ H x xs v us Q I rx rs h
  obtain ⟨G, ds, s', sub, pr, e, q⟩ := h
  unfold dJoin at e
  split at e
  · rename_i a d
    cases pr with
    | cons ra pr =>
      obtain ⟨y, rfl, rb⟩ := prx1 pr
      refine mt_join pins s σ H x _ v us Q I rx rs ?_
      have ey : ∃ p, y = .ref p := by
        cases d with
        | list ys => obtain ⟨p, _, e1, _⟩ := rp_lst sub rb; exact ⟨p, e1⟩
        | tuple ys => obtain ⟨p, _, e1, _⟩ := rp_tup sub rb; exact ⟨p, e1⟩
        | none => cases e
        | bool _ => cases e
        | int _ => cases e
        | str _ => cases e
        | dict _ => cases e
      cases d with
      | list ds =>
        simp only [seqD] at e
        split at e
        · rename_i ys hy
          split at e
          · rename_i c
            cases e
            obtain ⟨p, v1, rfl, h1, k1⟩ := rp_lst sub rb
            rw [(dp_all_strs k1 hy).1] at h1
            exact ⟨a, p, ys, rp_str ra, rfl, .inl h1, c, pe_val sub q (.str _)⟩
          · cases e
        · cases e
      | tuple ds =>
        simp only [seqD] at e
        split at e
        · rename_i ys hy
          split at e
          · rename_i c
            cases e
            obtain ⟨p, v1, rfl, h1, k1⟩ := rp_tup sub rb
            rw [(dp_all_strs k1 hy).1] at h1
            exact ⟨a, p, ys, rp_str ra, rfl, .inr h1, c, pe_val sub q (.str _)⟩
          · cases e
        · cases e
      | none => cases e
      | bool _ => cases e
      | int _ => cases e
      | str _ => cases e
      | dict _ => cases e
  · cases e
theorem rl_split : MtR X "str.split" (fun x xs H Q => PrimR X.K dSplit (x :: xs) H Q) := by
  intro pins s σ H x xs v us Q I rx rs h
  obtain ⟨G, ds, s', sub, pr, e, q⟩ := h
  unfold dSplit at e
  split at e
  · rename_i a b
    split at e
    · rename_i c
      cases e
      cases pr with
      | cons ra pr =>
        obtain ⟨y, rfl, rb⟩ := prx1 pr
        rw [rp_str rb] at rs
        exact mt_split pins s σ H x _ v us Q I rx rs ⟨a, b, rp_str ra, rfl, c.1, c.2, fun p hp => pe_newL sub q (dpAll_strs _) hp⟩
    · cases e
  · cases e
theorem find_vs {G : Hp} {a : PyData} {va : V} (ha : Dp X.K G va a) (fa : flatD a = true) : ∀ {vs : List V} {ds : List PyData} {j : Nat}, DpAll X.K G vs ds → ds.all flatD = true → ds.findIdx? (fun z => PyData.eqv z a) = some j →
    ∃ z, vs[j]? = some z ∧ eqV z va = true ∧ ∀ m z', m < j → vs[m]? = some z' → eqV z' va = false
  | _, [], j, .nil, _, e => by cases e
  | _, d :: ds, j, .cons h r, f, e => by
    rw [List.all_cons, Bool.and_eq_true] at f
    rw [List.findIdx?_cons] at e
    split at e
    · rename_i c
      cases e
      exact ⟨_, rfl, by rw [eqV_eqv h ha f.1 fa]; exact c, fun m z' hm => absurd hm (Nat.not_lt_zero _)⟩
    · rename_i c
      cases q : ds.findIdx? (fun z => PyData.eqv z a) with
      | none => rw [q] at e; cases e
      | some i =>
        rw [q] at e
        cases e
        obtain ⟨z, h1, h2, h3⟩ := find_vs ha fa r f.2 q
        refine ⟨z, by simpa using h1, h2, fun m z' hm hz => ?_⟩
        cases m with
        | zero =>
          cases hz
          rw [eqV_eqv h ha f.1 fa]
          simpa using c
        | succ m => exact h3 m z' (Nat.lt_of_succ_lt_succ hm) (by simpa using hz)
theorem rl_index : MtR X "list.index" (fun x xs H Q => PrimR X.K dIndex (x :: xs) H Q) := by
  intro pins s σ H x xs v us Q I rx rs h
  obtain ⟨G, ds, s', sub, pr, e, q⟩ := h
  unfold dIndex at e
  split at e
  · rename_i ys a
    split at e
    · rename_i c
      obtain ⟨c1, c2⟩ := Bool.and_eq_true_iff.mp c
      cases pr with
      | cons ra pr =>
        obtain ⟨y, rfl, rb⟩ := prx1 pr
        obtain ⟨p, v1, rfl, h1, k1⟩ := rp_lst sub ra
        cases z : ys.findIdx? (fun z => PyData.eqv z a) with
        | none => rw [z] at e; cases e
        | some j =>
          rw [z] at e
          cases e
          have da := rp_dp sub rb
          obtain ⟨w, e1, e2, e3⟩ := find_vs da c1 (DpAll_mono sub k1) c2 z
          exact mt_index pins s σ H _ _ v us Q I rx rs ⟨p, v1, y, j, w, rfl, rfl, h1, dp_flat da c1, dp_flats k1 c2, e1, e2, e3, pe_val sub q (.int _)⟩
    · cases e
  · cases e
end
end PyI

namespace PyI
open PySem PySem.Spec PyProof.Rows L2

/-! ## the small language -/
inductive Mm where
  | append | extend | clear | pop
  deriving DecidableEq
mutual
inductive E where
  | v (i : Nat)
  | c (d : PyData)
  | prim (p : Prm) (os : List O)
  | call (f : Str) (es : List E)
  | callIO (f : Str) (i : Nat) (es : List E)
  | and (a b : E)
  | or (a b : E)
  | not (a : E)
  | ite (t a b : E)
  | chain (p q : Prm) (a b d : E)
  | comp (it : I) (tg : Tg) (t : Option E) (e : E) (own : List Nat)
  | mut (m : Mm) (i : Nat) (es : List E)
  | meth (p : Prm) (o : O) (es : List E)
  | callK (f : Str) (is : List Nat)
  | callB (f : Str) (os : List O)
inductive O where
  | pl (i : Nat)
  | ex (e : E)
inductive I where
  | seq (e : E)
  | rng (es : List E)
  | enm (e : E)
  | zip (a b : E)
end
def mAppend : List PyData → List PyData → Option (PyData × List PyData)
  | xs, [d] => if xs.length < sizeLine then some (.none, xs ++ [d]) else none
  | _, _ => none
def mExtend : List PyData → List PyData → Option (PyData × List PyData)
  | xs, [.list ys] => if xs.length + ys.length ≤ sizeLine then some (.none, xs ++ ys) else none
  | _, _ => none
def mClear : List PyData → List PyData → Option (PyData × List PyData)
  | _, [] => some (.none, [])
  | _, _ => none
def mPop : List PyData → List PyData → Option (PyData × List PyData)
  | xs, [] => xs.getLast?.map fun d => (d, xs.dropLast)
  | _, _ => none
def mden : Mm → List PyData → List PyData → Option (PyData × List PyData)
  | .append => mAppend | .extend => mExtend | .clear => mClear | .pop => mPop
/-- walks -/
def itemsOf : PyData → Option (List PyData)
  | .list ds => some ds
  | .tuple ds => some ds
  | .str z => if lineB z.length then some (z.cps.toList.map fun c => .str ⟨#[c]⟩) else none
  | _ => none
def seqI (f : F) : IF := fun Γ => (f Γ).bind fun s Γ' => match s.fz with
  | some d => (match itemsOf d with
    | some ds => .ok ds Γ'
    | none => .no)
  | none => .no
def rngOf (lo : Int) (n : Nat) : List PyData := (List.range n).map fun (i : Nat) => .int (lo + i)
def dRng : List PyData → Option (Int × Nat)
  | [.int j] => if j ≤ 1000000 ∧ -(2 ^ 62) ≤ j then some (0, j.toNat) else none
  | [.int i, .int j] => if j - i ≤ 1000000 ∧ (-(2 ^ 62) ≤ i ∧ i < 2 ^ 62 ∧ -(2 ^ 62) ≤ j ∧ j < 2 ^ 62) then some (i, (j - i).toNat) else none
  | _ => none
def rngK (l : List (Nat ⊕ PyData)) (Γ' : Env) : Res (List PyData) := match rslv Γ' l with
  | some ds => (match dRng ds with
    | some r => .ok (rngOf r.1 r.2) Γ'
    | none => .no)
  | none => .no
def rngI (fs : List F) : IF := fun Γ => (opsF (fs.map .ex) Γ).bind rngK
def enmOf (i : Nat) : List PyData → List PyData
  | [] => []
  | d :: ds => .tuple [.int (i : Nat), d] :: enmOf (i + 1) ds
def enmK (l : List (Nat ⊕ PyData)) (Γ' : Env) : Res (List PyData) := match rslv Γ' l with
  | some [.list ds] => .ok (enmOf 0 ds) Γ'
  | _ => .no
def enmI (f : F) : IF := fun Γ => (opsF [.ex f] Γ).bind enmK
def zipOf : List PyData → List PyData → List PyData
  | d :: ds, e :: es => .tuple [d, e] :: zipOf ds es
  | _, _ => []
def zipK (l : List (Nat ⊕ PyData)) (Γ' : Env) : Res (List PyData) := match rslv Γ' l with
  | some [.list ds, .list es] => .ok (zipOf ds es) Γ'
  | _ => .no
def zipI (f g : F) : IF := fun Γ => (opsF [.ex f, .ex g] Γ).bind zipK
inductive MK where
  | str | list
def kindOk : MK → PyData → Bool
  | .str, .str _ => true
  | .list, .list _ => true
  | _, _ => false
def mkOf : Prm → MK
  | .join => .str
  | .split => .str
  | _ => .list
def methF (k : MK) (p : List PyData → Option Sl) (o : Opd) (es : List F) : F := fun Γ => match o with
  | .pl i => (match Γ[i]? with
    | some s => (match s.pk with
      | some d => if kindOk k d = true then (opsF (es.map .ex) Γ).bind fun l Γ' => (match rslv Γ' (.inl i :: l) with
        | some ds => (match p ds with
          | some s => .ok s Γ'
          | none => .no)
        | none => .no) else .no
      | none => .no)
    | none => .no)
  | .ex f => (f Γ).bind fun s Γ1 => (match s.fz with
    | some d => if kindOk k d = true then (opsF (es.map .ex) Γ1).bind fun l Γ' => (match rslv Γ' (.inr d :: l) with
      | some ds => (match p ds with
        | some s => .ok s Γ'
        | none => .no)
      | none => .no) else .no
    | none => .no)
def fzAll (Γ : Env) : List Nat → Option (List PyData)
  | [] => some []
  | i :: is => match (Γ[i]?).bind Sl.fz, fzAll Γ is with
    | some d, some ds => some (d :: ds)
    | _, _ => none
def plainD : PyData → Bool
  | .none => true
  | .bool _ => true
  | .int _ => true
  | .str _ => true
  | _ => false
/-- a call that only looks at the slots is, and comes to something plain -/
def callK (f : Fn) (is : List Nat) : F := fun Γ => match fzAll Γ is with
  | some ds => (match f (ds.map .val) with
    | .ok (.val d) _ => if plainD d = true then .ok (.val d) Γ else .no
    | _ => .no)
  | none => .no
mutual
/-- data without a list -/
def noL : PyData → Bool
  | .none => true
  | .bool _ => true
  | .int _ => true
  | .str _ => true
  | .tuple ds => noLs ds
  | _ => false
def noLs : List PyData → Bool
  | [] => true
  | d :: ds => noL d && noLs ds
end
/-- a call that only looks at the slots told as such, and comes to data without a list -/
def callBF (f : Fn) (os : List Opd) : F := fun Γ => (opsF os Γ).bind fun l Γ' => match rslv Γ' l with
  | some ds => (match f (ds.map .val) with
    | .ok (.val d) _ => if noL d = true then .ok (.val d) Γ' else .no
    | .ex c d _ => if noL d = true then .ex c d Γ' else .no
    | _ => .no)
  | none => .no
mutual
def evE (φ : Str → Fn) : E → F
  | .v i => cV i
  | .c d => cC d
  | .prim p os => primF (den p) (evOs φ os)
  | .call f es => callF (φ f) (evEs φ es)
  | .callIO f i es => callIO (φ f) i (evEs φ es)
  | .and a b => andF (evE φ a) (evE φ b)
  | .or a b => orF (evE φ a) (evE φ b)
  | .not a => notF (evE φ a)
  | .ite t a b => iteF (evE φ t) (evE φ a) (evE φ b)
  | .chain p q a b d => chF (den p) (den q) (evE φ a) (evE φ b) (evE φ d)
  | .comp it tg t e own => compF (evI φ it) tg (evT φ t) (evE φ e) own
  | .mut m i es => mutF (mden m) i (evEs φ es)
  | .meth p o es => methF (mkOf p) (den p) (evO φ o) (evEs φ es)
  | .callK f is => callK (φ f) is
  | .callB f os => callBF (φ f) (evOs φ os)
def evT (φ : Str → Fn) : Option E → Option F
  | none => none
  | some e => some (evE φ e)
def evEs (φ : Str → Fn) : List E → List F
  | [] => []
  | e :: es => evE φ e :: evEs φ es
def evO (φ : Str → Fn) : O → Opd
  | .pl i => .pl i
  | .ex e => .ex (evE φ e)
def evOs (φ : Str → Fn) : List O → List Opd
  | [] => []
  | o :: os => evO φ o :: evOs φ os
def evI (φ : Str → Fn) : I → IF
  | .seq e => seqI (evE φ e)
  | .rng es => rngI (evEs φ es)
  | .enm e => enmI (evE φ e)
  | .zip a b => zipI (evE φ a) (evE φ b)
end
theorem evOs_ex (φ : Str → Fn) : ∀ es : List E, evOs φ (es.map .ex) = (evEs φ es).map .ex
  | [] => rfl
  | e :: es => by
    show evO φ (.ex e) :: evOs φ (es.map .ex) = _
    rw [evOs_ex φ es]
    simp [evO, evEs]

/-! ## from the text -/
structure FnI where
  n : Nat
  io : Bool
structure GT where
  blt : List Str
  con : List (Str × PyData)
  fns : List (Str × FnI)
  /-- rows of the text whose calls only look; whose return is a tuple that is owned -/
  keep : List Nat
  tups : List Nat
  /-- rows whose calls look at slots, and come to no list -/
  bor : List Nat
structure CC where
  N : List Str
  sc : Scope
  blk : Option Scope
  T : GT
def idxOf (x : Str) : List Str → Nat → Option Nat
  | [], _ => none
  | y :: ys, k => if y = x then some k else idxOf x ys (k + 1)
def visB (sc : Scope) (x : Str) : Bool := match sc.names.lookup x with
  | some .local => true
  | some .cell => true
  | some .free => true
  | _ => false
def slotOf (c : CC) (x : Str) : Option Nat := if (visB c.sc x && !(x == ("__debug__" : Str)) && !(x == ("__classdict__" : Str))) = true then idxOf x c.N 0 else none
def glB (sc : Scope) (x : Str) : Bool := (match sc.names.lookup x with
  | some .globalImplicit => true
  | _ => false) && !(x == ("__debug__" : Str))
def lcK : Option NameKind → Bool
  | some .local => true
  | some .cell => true
  | _ => false
theorem lcK_ok {o : Option NameKind} (h : lcK o = true) : o = some .local ∨ o = some .cell := by
  unfold lcK at h
  split at h
  · exact .inl rfl
  · exact .inr rfl
  · cases h
def blkK (x : Str) : Option Scope → Bool
  | none => true
  | some s => lcK (s.names.lookup x)
/-- a name to be stored -/
def tgSlot (c : CC) (x : Str) : Option Nat := if (lcK (c.sc.names.lookup x) && blkK x c.blk) = true then idxOf x c.N 0 else none
def cConst : Const → Option E
  | .none => some (.c .none)
  | .bool b => some (.c (.bool b))
  | .int i => some (.c (.int i))
  | .str s => some (.c (.str s))
  | _ => none
def cName (c : CC) (x : Str) : Option E := match slotOf c x with
  | some i => some (.v i)
  | none => if glB c.sc x = true then (c.T.con.lookup x).map .c else none
abbrev Rc := CC → Bool → Expr → Option E
def cEs (r : Rc) (c : CC) : List Expr → Option (List E)
  | [] => some []
  | e :: es => match r c false e, cEs r c es with
    | some a, some b => some (a :: b)
    | _, _ => none
def cO (r : Rc) (c : CC) : Expr → Option O
  | .Name x p => (match slotOf c x with
    | some i => some (.pl i)
    | none => (r c false (.Name x p)).map .ex)
  | e => (r c false e).map .ex
def cOs (r : Rc) (c : CC) : List Expr → Option (List O)
  | [] => some []
  | e :: es => match cO r c e, cOs r c es with
    | some a, some b => some (a :: b)
    | _, _ => none
def binPrm : Operator → Option Prm
  | .Add => some .add | .Sub => some .sub | .Mult => some .mul | .FloorDiv => some .fdiv | .Mod => some .mod | .Pow => some .pow
  | _ => none
def cmpPrm : CmpOp → Option Prm
  | .Eq => some .eq | .NotEq => some .ne | .Lt => some .lt | .LtE => some .le | .Gt => some .gt | .GtE => some .ge | .In => some .isin | .NotIn => some .notin
  | _ => none
def intPrm : CmpOp → Option Prm
  | .Lt => some .lt | .LtE => some .le | .Gt => some .gt | .GtE => some .ge
  | _ => none
def isNoneC : Expr → Bool
  | .Constant .none _ _ => true
  | _ => false
def cCmp (r : Rc) (c : CC) (a : Expr) (op : CmpOp) (b : Expr) : Option E := match op with
  | .Is => if isNoneC b = true then (cO r c a).map fun a => .prim .isN [a] else none
  | .IsNot => if isNoneC b = true then (cO r c a).map fun a => .prim .notN [a] else none
  | op => match cmpPrm op, cO r c a, cO r c b with
    | some p, some a, some b => some (.prim p [a, b])
    | _, _, _ => none
def cChain (r : Rc) (c : CC) (a : Expr) (op op' : CmpOp) (b d : Expr) : Option E := match intPrm op, intPrm op', r c false a, r c false b, r c false d with
  | some p, some q, some a, some b, some d => some (.chain p q a b d)
  | _, _, _, _, _ => none
def cBool (r : Rc) (c : CC) (t : Bool) (op : BoolOp) : List Expr → Option E
  | [] => none
  | [a] => r c t a
  | a :: b :: rest => match r c t a, cBool r c t op (b :: rest) with
    | some a, some b => some (match op with
      | .And => .and a b
      | .Or => .or a b)
    | _, _ => none
def isSlice : Expr → Bool
  | .Slice .. => true
  | _ => false
def cSlice (r : Rc) (c : CC) (a : Expr) : Option Expr → Option Expr → Option Expr → Option E
  | none, none, none => (cO r c a).map fun a => .prim .sl00 [a]
  | some l, none, none => (match cO r c a, r c false l with
    | some a, some l => some (.prim .sl10 [a, .ex l])
    | _, _ => none)
  | none, some h, none => (match cO r c a, r c false h with
    | some a, some h => some (.prim .sl01 [a, .ex h])
    | _, _ => none)
  | none, none, some (.UnaryOp .USub (.Constant (.int 1) _ _) _) => (cO r c a).map fun a => .prim .rev [a]
  | _, _, _ => none
def cSub (r : Rc) (c : CC) (a : Expr) : Expr → Option E
  | .Slice lo hi st _ => cSlice r c a lo hi st
  | i => (match cO r c a, cO r c i with
    | some a, some i => some (.prim .ix [a, i])
    | _, _ => none)

def nameSlots (c : CC) : List Expr → Option (List Nat)
  | [] => some []
  | .Name x _ :: es => (match tgSlot c x, nameSlots c es with
    | some i, some is => some (i :: is)
    | _, _ => none)
  | _ => none
def cTg (c : CC) : Expr → Option Tg
  | .Name x _ => (tgSlot c x).map .one
  | .Tuple es _ _ => (nameSlots c es).map .tup
  | _ => none
def isTupE : Expr → Bool
  | .Tuple .. => true
  | _ => false
/-- what is walked; tt: the target is a written tuple -/
def cI (r : Rc) (c : CC) (tt : Bool) (e : Expr) : Option I := match e with
  | .Call (.Name f fp) args [] cp => if f = "range" then (if (glB c.sc f && c.T.blt.contains f) = true then (match args with
      | [a] => (cEs r c [a]).map .rng
      | [a, b] => (cEs r c [a, b]).map .rng
      | _ => none) else none)
    else if f = "enumerate" then (if (glB c.sc f && c.T.blt.contains f && tt) = true then (match args with
      | [a] => (r c false a).map .enm
      | _ => none) else none)
    else if f = "zip" then (if (glB c.sc f && c.T.blt.contains f && tt) = true then (match args with
      | [a, b] => (match r c false a, r c false b with
        | some a, some b => some (.zip a b)
        | _, _ => none)
      | _ => none) else none)
    else (r c false (.Call (.Name f fp) args [] cp)).map .seq
  | e => (r c false e).map .seq
def ownOf (N : List Str) (scope : Scope) : List (Str × Nat) := scope.names.filterMap fun y => match y.2 with
  | .local => (idxOf y.1 N 0).map fun i => (y.1, i)
  | .cell => (idxOf y.1 N 0).map fun i => (y.1, i)
  | _ => none
def inBlk (c : CC) (scope : Scope) : CC := { c with sc := relS scope c.sc, blk := some scope }
def cIfs (r : Rc) (c : CC) : List Expr → Option (Option E)
  | [] => some none
  | [e] => (r c true e).map some
  | _ => none
def cComp (r : Rc) (c : CC) (elt tg iter : Expr) (ifs : List Expr) (scope : Scope) : Option E :=
  if blkC c.N c.sc scope (ownOf c.N scope) = true then (match cI r c (isTupE tg) iter, cTg (inBlk c scope) tg, cIfs r (inBlk c scope) ifs, r (inBlk c scope) false elt with
    | some it, some g, some t, some e => if g.all.all (fun j => (ownOf c.N scope).any fun p => p.2 == j) = true then some (.comp it g t e ((ownOf c.N scope).map (·.2))) else none
    | _, _, _, _ => none) else none
def blt1 (f : Str) : Option Prm :=
  if f = "len" then some .len else if f = "all" then some .all else if f = "any" then some .any else if f = "abs" then some .abs else if f = "sum" then some .sum
  else if f = "sorted" then some .sorted else none
def ty1 (f : Str) : Option Prm :=
  if f = "tuple" then some .tupleOf else if f = "list" then some .listOf else if f = "int" then some .int else if f = "str" then some .str else none
def blt2 (f : Str) : Option Prm := if f = "min" then some .min2 else if f = "max" then some .max2 else none
def kindOf (c : CC) : Expr → Option String
  | .Name x _ => if (glB c.sc x && c.T.blt.contains x) = true then (if x = "int" then some "int" else if x = "bool" then some "bool" else if x = "str" then some "str" else if x = "list" then some "list" else if x = "tuple" then some "tuple" else none) else none
  | _ => none
def kindsOf (c : CC) : List Expr → Option (List String)
  | [] => some []
  | e :: es => (match kindOf c e, kindsOf c es with
    | some a, some b => some (a :: b)
    | _, _ => none)
def isSetCall (c : CC) : Expr → Option Expr
  | .Call (.Name f _) [a] [] _ => if f = "set" then (if (glB c.sc f && c.T.blt.contains f) = true then some a else none) else none
  | _ => none
def cCall1 (r : Rc) (c : CC) (f : Str) (a : Expr) : Option E :=
  if f = "len" then (match isSetCall c a with
    | some b => (cO r c b).map fun b => .prim .lenset [b]
    | none => (cO r c a).map fun a => .prim .len [a])
  else match blt1 f with
  | some p => (cO r c a).map fun a => .prim p [a]
  | none => (match ty1 f with
    | some p => (cO r c a).map fun a => .prim p [a]
    | none => none)
def cCall2 (r : Rc) (c : CC) (f : Str) (a b : Expr) : Option E :=
  if f = "isinstance" then (match b with
    | .Tuple es _ _ => (match kindsOf c es, cO r c a with
      | some ks, some a => if lineB ks.length = true then some (.prim (.isi ks) [a]) else none
      | _, _ => none)
    | b => (match kindOf c b, cO r c a with
      | some k, some a => some (.prim (.isi [k]) [a])
      | _, _ => none))
  else match blt2 f, cO r c a, cO r c b with
  | some p, some a, some b => some (.prim p [a, b])
  | _, _, _ => none
def cCall (r : Rc) (c : CC) (f : Str) (args : List Expr) : Option E := if glB c.sc f = true then (match c.T.fns.lookup f with
  | some i => if i.io = true then (match args with
      | .Name x _ :: rest => (match slotOf c x, cEs r c rest with
        | some j, some es => if es.length + 1 = i.n then some (.callIO f j es) else none
        | _, _ => none)
      | _ => none) else (match args with
      | [] => none
      | a :: rest => (match cEs r c (a :: rest) with
        | some es => if es.length = i.n then some (.call f es) else none
        | none => none))
  | none => if c.T.blt.contains f = true then (match args with
    | [a] => cCall1 r c f a
    | [a, b] => cCall2 r c f a b
    | _ => none) else none) else none
def allSlots (c : CC) : List Expr → Option (List Nat)
  | [] => some []
  | .Name x _ :: es => (match slotOf c x, allSlots c es with
    | some i, some is => some (i :: is)
    | _, _ => none)
  | _ => none
def cCallK (c : CC) (f : Str) (args : List Expr) : Option E := if glB c.sc f = true then (match c.T.fns.lookup f, args with
  | some i, a :: rest => if i.io = true then none else (match allSlots c (a :: rest) with
    | some is => if is.length = i.n then some (.callK f is) else none
    | none => none)
  | _, _ => none) else none
def cCallB (r : Rc) (c : CC) (f : Str) (args : List Expr) : Option E := if glB c.sc f = true then (match c.T.fns.lookup f, args with
  | some i, a :: rest => if i.io = true then none else (match cOs r c (a :: rest) with
    | some os => if os.length = i.n then some (.callB f os) else none
    | none => none)
  | _, _ => none) else none
def superLike : Expr → Bool
  | .Call (.Name _ _) [] [] _ => true
  | _ => false
def cMeth (r : Rc) (c : CC) (o : Expr) (m : Str) (args : List Expr) : Option E := match o, args with
  | .Name x _, [a] => if m = "append" then (match slotOf c x, r c false a with
      | some i, some a => some (.mut .append i [a])
      | _, _ => none)
    else if m = "extend" then (match slotOf c x, r c false a with
      | some i, some a => some (.mut .extend i [a])
      | _, _ => none)
    else cMeth1 r c o m a
  | .Name x _, [] => if m = "pop" then (slotOf c x).map fun i => .mut .pop i []
    else if m = "clear" then (slotOf c x).map fun i => .mut .clear i []
    else none
  | o, [a] => cMeth1 r c o m a
  | _, _ => none
where
  cMeth1 (r : Rc) (c : CC) (o : Expr) (m : Str) (a : Expr) : Option E := match cO r c o, r c false a with
    | some o, some a => if m = "join" then some (.meth .join o [a]) else if m = "split" then some (.meth .split o [a]) else if m = "index" then some (.meth .index o [a]) else none
    | _, _ => none
def cmp : Nat → Rc
  | 0, _, _, _ => none
  | n + 1, c, t, e => match e with
    | .Constant v _ _ => cConst v
    | .Name x _ => cName c x
    | .Tuple es _ _ => (cEs (cmp n) c es).map fun l => .prim .tup (l.map .ex)
    | .List es _ => (cEs (cmp n) c es).map fun l => .prim .lst (l.map .ex)
    | .BinOp a op b _ => (match binPrm op, cO (cmp n) c a, cO (cmp n) c b with
      | some p, some a, some b => some (.prim p [a, b])
      | _, _, _ => none)
    | .UnaryOp .USub a _ => (cO (cmp n) c a).map fun a => .prim .neg [a]
    | .UnaryOp .Not a _ => (cmp n c t a).map .not
    | .BoolOp op vs _ => cBool (cmp n) c t op vs
    | .IfExp a b d _ => if t = true then none else (match cmp n c true a, cmp n c false b, cmp n c false d with
      | some a, some b, some d => some (.ite a b d)
      | _, _, _ => none)
    | .Compare a [op] [b] _ => cCmp (cmp n) c a op b
    | .Compare a [op, op'] [b, d] _ => cChain (cmp n) c a op op' b d
    | .Subscript a i _ => cSub (cmp n) c a i
    | .ListComp elt [⟨tg, iter, ifs, 0⟩] scope _ => cComp (cmp n) c elt tg iter ifs scope
    | .Call (.Name f _) args [] p => if c.T.keep.contains p.line = true then cCallK c f args else if (c.T.bor.contains p.line && (c.T.fns.lookup f).isSome) = true then cCallB (cmp n) c f args else cCall (cmp n) c f args
    | .Call (.Attribute o m ap) args [] cp => if (ap.endLine == cp.line && !superLike o) = true then cMeth (cmp n) c o m args else none
    | _ => none
end PyI

namespace PyI
open PySem PySem.Spec PyProof.Rows L2

/-! ## the small language says what the text does -/
/-- an expression that no special form takes -/
structure Pl (e : Expr) : Prop where
  st : ∀ (es : List Expr) (env : PySem.Env), starEach (e :: es) env = (false, eval e env) :: starEach es env
  bm : ∀ op, behindInMarks op e = false
  fs : ∀ (env : PySem.Env) (x : Value), foldedSetIterable e env x = pure x
end PyI
namespace PyI
open PySem PySem.Spec PyProof.Rows L2
theorem pl_of (e : Expr) (h1 : ∀ a p, e ≠ .Starred a p) (h2 : ∀ a k p, e ≠ .Set a k p) : Pl e := by
  cases e <;> first
    | exact ⟨fun _ _ => rfl, fun _ => rfl, fun _ _ => rfl⟩
    | exact absurd rfl (h1 _ _)
    | exact absurd rfl (h2 _ _ _)
/-- the globals that the text names -/
structure GOk (ca : Str → Addr) (T : GT) (k : Nat) (φ : Str → Fn) (P : Program) (w : World) (K : PySem.W.Frag) (mg : Str → Option Value) (base : Heap) : Prop where
  blt : ∀ x, T.blt.contains x = true → mg x = none
  con : ∀ x d, T.con.lookup x = some d → ∃ v u, mg x = some u ∧ RelV v u ∧ ∀ G, Dp K G v d
  fns : ∀ x i, T.fns.lookup x = some i → ∃ f fd ps, mg x = some (.ref f) ∧ PySem.W.keepIn K (.ref f) = true ∧ Binds K fd ps [] ∧ FnOk P w K mg base (L2.CX P w) k f fd ps (SpF K ca i.io i.n (φ x))
structure XOk (ca : Str → Addr) (φ : Str → Fn) (k : Nat) (c : CC) (X : Cx) (W : WX) : Prop where
  N : X.N = c.N
  nd : X.N.Nodup
  sc : X.env.scope = c.sc
  calm : X.calm = true
  tk : Takes X W
  fnl : ∀ x, (c.blk = none ∨ ∃ s, c.blk = some s ∧ (s.names.lookup x = some .local ∨ s.names.lookup x = some .cell)) → X.fn x = true ∨ X.env.scope.names.lookup x = some .local
  room : Room k X.A
  glob : GOk ca c.T k φ X.prog X.w X.K X.mg X.base
theorem idxOf_at {x : Str} : ∀ {N : List Str} {k i : Nat}, idxOf x N k = some i → k ≤ i ∧ N[i - k]? = some x
  | [], _, _, h => by cases h
  | y :: ys, k, i, h => by
    unfold idxOf at h
    split at h
    · rename_i e
      cases h
      exact ⟨Nat.le_refl _, by rw [Nat.sub_self]; exact congrArg some e⟩
    · obtain ⟨h1, h2⟩ := idxOf_at h
      refine ⟨by omega, ?_⟩
      rw [show i - k = (i - (k + 1)) + 1 by omega]
      exact h2
theorem idxOf_0 {x : Str} {N : List Str} {i : Nat} (h : idxOf x N 0 = some i) : N[i]? = some x := by
  have := (idxOf_at h).2
  simpa using this
theorem visB_ok {sc : Scope} {x : Str} (h : visB sc x = true) : Vis sc x := by
  unfold visB at h
  split at h
  · exact .inl (by assumption)
  · exact .inr (.inl (by assumption))
  · exact .inr (.inr (by assumption))
  · cases h
section
variable {ca : Str → Addr} {φ : Str → Fn} {k : Nat} {c : CC} {X : Cx} {W : WX} {r : Rc}
theorem slot_ok (O : XOk ca φ k c X W) {x : Str} {i : Nat} {p : Pos} (h : slotOf c x = some i) : PE X (.Name x p) (tVar i) := by
  unfold slotOf at h
  split at h
  · rename_i q
    simp only [Bool.and_eq_true, Bool.not_eq_true'] at q
    exact pe_var (by rw [O.N]; exact idxOf_0 h) (by rw [O.sc]; exact visB_ok q.1.1) q.1.2 q.2
  · cases h
theorem gl_ok (O : XOk ca φ k c X W) {x : Str} (h : glB c.sc x = true) : Gl X x ∧ (x == ("__debug__" : Str)) = false := by
  unfold glB at h
  simp only [Bool.and_eq_true, Bool.not_eq_true'] at h
  refine ⟨?_, h.2⟩
  show X.env.scope.names.lookup x = some .globalImplicit
  rw [O.sc]
  have h := h.1
  split at h
  · assumption
  · cases h
/-- what an expression's translation says -/
def Snd (ca : Str → Addr) (φ : Str → Fn) (X : Cx) (W : WX) (t : Bool) (e : Expr) (ir : E) : Prop := Pl e ∧ match t with
  | false => PE X e (TEv X.K ca W (evE φ ir))
  | true => PT X e (TTv X.K ca W (evE φ ir))
def RcOk (ca : Str → Addr) (φ : Str → Fn) (k : Nat) (r : Rc) : Prop := ∀ (c : CC) (X : Cx) (W : WX) (t : Bool) (e : Expr) (ir : E), XOk ca φ k c X W → r c t e = some ir → Snd ca φ X W t e ir
theorem es_ok (R : RcOk ca φ k r) (O : XOk ca φ k c X W) : ∀ {es : List Expr} {irs : List E}, cEs r c es = some irs → PA X es (taOs X.K ca W ((evEs φ irs).map .ex)) ∧ ∀ e ∈ es, Pl e
  | [], irs, h => by cases h; exact ⟨pa_nil, by simp⟩
  | e :: es, irs, h => by
    unfold cEs at h
    cases q1 : r c false e with
    | none => rw [q1] at h; cases h
    | some a =>
      rw [q1] at h
      cases q2 : cEs r c es with
      | none => rw [q2] at h; cases h
      | some b =>
        rw [q2] at h
        cases h
        obtain ⟨p1, s1⟩ := R c X W false e a O q1
        obtain ⟨p2, s2⟩ := es_ok R O q2
        exact ⟨pa_cons s1 p2 (p1.st _ _), fun e' he => (List.mem_cons.mp he).elim (fun z => z ▸ p1) (fun z => s2 e' z)⟩
theorem o_ok (R : RcOk ca φ k r) (O : XOk ca φ k c X W) {e : Expr} {o : PyI.O} (h : cO r c e = some o) : PE X e (tOpd X.K ca W (evO φ o)) ∧ Pl e := by
  have gen : (r c false e).map PyI.O.ex = some o → PE X e (tOpd X.K ca W (evO φ o)) ∧ Pl e := fun h => by
    cases q : r c false e with
    | none => rw [q] at h; cases h
    | some a =>
      rw [q] at h
      cases h
      obtain ⟨p1, s1⟩ := R c X W false e a O q
      exact ⟨s1, p1⟩
  cases e with
  | Name x p =>
    simp only [cO] at h
    cases q : slotOf c x with
    | none => rw [q] at h; exact gen h
    | some i => rw [q] at h; cases h; exact ⟨slot_ok O q, pl_of _ (by simp) (by simp)⟩
  | _ => exact gen h
theorem os_ok (R : RcOk ca φ k r) (O : XOk ca φ k c X W) : ∀ {es : List Expr} {irs : List PyI.O}, cOs r c es = some irs → PA X es (taOs X.K ca W (evOs φ irs)) ∧ ∀ e ∈ es, Pl e
  | [], irs, h => by cases h; exact ⟨pa_nil, by simp⟩
  | e :: es, irs, h => by
    unfold cOs at h
    cases q1 : cO r c e with
    | none => rw [q1] at h; cases h
    | some a =>
      rw [q1] at h
      cases q2 : cOs r c es with
      | none => rw [q2] at h; cases h
      | some b =>
        rw [q2] at h
        cases h
        obtain ⟨s1, p1⟩ := o_ok R O q1
        obtain ⟨p2, s2⟩ := os_ok R O q2
        exact ⟨pa_cons s1 p2 (p1.st _ _), fun e' he => (List.mem_cons.mp he).elim (fun z => z ▸ p1) (fun z => s2 e' z)⟩
theorem plains (pos : Pos) (env : PySem.Env) : ∀ {es : List Expr}, (∀ e ∈ es, Pl e) → (backTo pos (starEach es env)).any (·.1) = false
  | [], _ => rfl
  | e :: es, h => by
    rw [(h e (by simp)).st]
    show (false || (backTo pos (starEach es env)).any (·.1)) = false
    rw [plains pos env fun e' he => h e' (by simp [he])]
    rfl
/-- one shape: a primitive over operands -/
theorem prim_te {p : Prm} {os : List PyI.O} {e : Expr} {t : TE} (h : PE X e t) (w : ∀ σ H Q, taOs X.K ca W (evOs φ os) σ H (fun vs H' => PrimR X.K (den p) vs H' Q) → t σ H Q) : PE X e (TEv X.K ca W (evE φ (.prim p os))) :=
  h.weak fun σ H Q q => w σ H Q (prim_run (by simpa only [evE] using q))
theorem s_const {v : Const} {ir : E} {j : Nat} {pos : Pos} (h : cConst v = some ir) : PE X (.Constant v j pos) (TEv X.K ca W (evE φ ir)) := by
  cases v <;> first | (cases h; done) | skip
  · cases h; simp only [evE]; exact xe_C pe_non fun _ => .non
  · cases h; simp only [evE]; exact xe_C pe_bl fun _ => .bl _
  · cases h; simp only [evE]; exact xe_C pe_int fun _ => .int _
  · cases h; simp only [evE]; exact xe_C pe_str fun _ => .str _
theorem s_name (O : XOk ca φ k c X W) {x : Str} {ir : E} {pos : Pos} (h : cName c x = some ir) : PE X (.Name x pos) (TEv X.K ca W (evE φ ir)) := by
  unfold cName at h
  cases q : slotOf c x with
  | some i =>
    rw [q] at h
    cases h
    simp only [evE]
    exact xe_V (slot_ok O q)
  | none =>
    rw [q] at h
    dsimp only at h
    split at h
    · rename_i g
      obtain ⟨g1, g2⟩ := gl_ok O g
      cases q2 : c.T.con.lookup x with
      | none => rw [q2] at h; cases h
      | some d =>
        rw [q2] at h
        cases h
        obtain ⟨v, u, h1, h2, h3⟩ := O.glob.con x d q2
        simp only [evE]
        exact xe_C (pe_glob g1 h1 h2 g2) h3
    · cases h
theorem s_bin {a b : Expr} {op : Operator} {pos : Pos} {p : Prm} {oa ob : PyI.O} (hp : binPrm op = some p) (ha : PE X a (tOpd X.K ca W (evO φ oa))) (hb : PE X b (tOpd X.K ca W (evO φ ob))) : PE X (.BinOp a op b pos) (TEv X.K ca W (evE φ (.prim p [oa, ob]))) := by
  have key : ∀ {p : Prm}, OpR X (binaryOp op) (Prim2 X.K (den p)) → PE X (.BinOp a op b pos) (TEv X.K ca W (evE φ (.prim p [oa, ob]))) := fun {p} h => prim_te (pe_op h ha hb) fun σ H Q q => q
  cases op <;> first | (cases hp; done) | skip
  · cases hp; exact key rl_add
  · cases hp; exact key rl_sub
  · cases hp; exact key rl_mul
  · cases hp; exact key rl_mod
  · cases hp; exact key rl_pow
  · cases hp; exact key rl_fdiv
theorem cmp_rule (O : XOk ca φ k c X W) {op : CmpOp} {p : Prm} (hp : cmpPrm op = some p) : OpR X (compareOp op) (Prim2 X.K (den p)) := by
  have u1 : X.A.units + 64 < cLine := O.room.units
  have u2 : X.A.units + 65 < cLine := by have := O.room.un; omega
  cases op <;> first | (cases hp; done) | skip
  · cases hp; exact rl_eq u1
  · cases hp; exact rl_ne u1
  · cases hp; exact rl_lt
  · cases hp; exact rl_le
  · cases hp; exact rl_gt
  · cases hp; exact rl_ge
  · cases hp; exact rl_in u2
  · cases hp; exact rl_notin u2
theorem TEo {o : Opd} {σ : L2.St} {H : Hp} {Q Q' : VK} (h : tOpd X.K ca W o σ H Q) (w : ∀ v H', Q v H' → Q' v H') : tOpd X.K ca W o σ H Q' := by
  cases o with
  | pl i => obtain ⟨v, e, q⟩ := h; exact ⟨v, e, w _ _ q⟩
  | ex f => exact TEv_mono h w
theorem s_cmp (R : RcOk ca φ k r) (O : XOk ca φ k c X W) {a b : Expr} {op : CmpOp} {pos : Pos} {ir : E} (h : cCmp r c a op b = some ir) : Snd ca φ X W false (.Compare a [op] [b] pos) ir ∧ Snd ca φ X W true (.Compare a [op] [b] pos) ir := by
  have pl : Pl (.Compare a [op] [b] pos) := pl_of _ (by simp) (by simp)
  suffices hh : ∃ t : TE, (∀ σ H Q, TEv X.K ca W (evE φ ir) σ H Q → t σ H Q) ∧ PE X (.Compare a [op] [b] pos) t ∧ PT X (.Compare a [op] [b] pos) (tTest t) by
    obtain ⟨t, w, h1, h2⟩ := hh
    exact ⟨⟨pl, h1.weak w⟩, pl, h2.weak fun σ H Q q => w σ H _ q⟩
  have two : ∀ {op : CmpOp} {p : Prm}, cmpPrm op = some p → (match cmpPrm op, cO r c a, cO r c b with
      | some p, some a, some b => some (E.prim p [a, b])
      | _, _, _ => none) = some ir → ∃ t : TE, (∀ σ H Q, TEv X.K ca W (evE φ ir) σ H Q → t σ H Q) ∧ PE X (.Compare a [op] [b] pos) t ∧ PT X (.Compare a [op] [b] pos) (tTest t) := fun {op p} hp h => by
    rw [hp] at h
    cases q1 : cO r c a with
    | none => rw [q1] at h; cases h
    | some oa =>
      rw [q1] at h
      cases q2 : cO r c b with
      | none => rw [q2] at h; cases h
      | some ob =>
        rw [q2] at h
        cases h
        obtain ⟨ha, _⟩ := o_ok R O q1
        obtain ⟨hb, pb⟩ := o_ok R O q2
        have rule := cmp_rule O hp
        exact ⟨_, fun σ H Q q => prim_run (by simpa only [evE] using q), pe_cmpR rule ha hb (pb.bm _), pt_cmpR rule ha hb (pb.bm _)⟩
  have nonE : isNoneC b = true → ∃ j p, b = .Constant .none j p := fun h => by
    unfold isNoneC at h
    split at h
    · exact ⟨_, _, rfl⟩
    · cases h
  cases op with
  | Is =>
    simp only [cCmp] at h
    split at h
    · rename_i q
      obtain ⟨j, p, rfl⟩ := nonE q
      cases q1 : cO r c a with
      | none => rw [q1] at h; cases h
      | some oa =>
        rw [q1] at h
        cases h
        obtain ⟨ha, _⟩ := o_ok R O q1
        have pb : behindInMarks .Is (.Constant .none j p) = false := rfl
        have conv : ∀ σ H Q, TEv X.K ca W (evE φ (.prim .isN [oa])) σ H Q → tOp (fun x y H Q => y = .non ∧ PrimR X.K dIsN [x] H Q) (tOpd X.K ca W (evO φ oa)) (tC .non) σ H Q := fun σ H Q q =>
          TEo (show tOpd X.K ca W (evO φ oa) σ H (fun x H1 => PrimR X.K dIsN [x] H1 Q) from prim_run (p := den .isN) (os := [evO φ oa]) (by simpa only [evE, evOs] using q)) fun x H1 q => ⟨rfl, q⟩
        exact ⟨_, conv, pe_cmpR rl_isN ha pe_non pb, pt_cmpR rl_isN ha pe_non pb⟩
    · cases h
  | IsNot =>
    simp only [cCmp] at h
    split at h
    · rename_i q
      obtain ⟨j, p, rfl⟩ := nonE q
      cases q1 : cO r c a with
      | none => rw [q1] at h; cases h
      | some oa =>
        rw [q1] at h
        cases h
        obtain ⟨ha, _⟩ := o_ok R O q1
        have pb : behindInMarks .IsNot (.Constant .none j p) = false := rfl
        have conv : ∀ σ H Q, TEv X.K ca W (evE φ (.prim .notN [oa])) σ H Q → tOp (fun x y H Q => y = .non ∧ PrimR X.K dNotN [x] H Q) (tOpd X.K ca W (evO φ oa)) (tC .non) σ H Q := fun σ H Q q =>
          TEo (show tOpd X.K ca W (evO φ oa) σ H (fun x H1 => PrimR X.K dNotN [x] H1 Q) from prim_run (p := den .notN) (os := [evO φ oa]) (by simpa only [evE, evOs] using q)) fun x H1 q => ⟨rfl, q⟩
        exact ⟨_, conv, pe_cmpR rl_notN ha pe_non pb, pt_cmpR rl_notN ha pe_non pb⟩
    · cases h
  | Eq => exact two rfl h
  | NotEq => exact two rfl h
  | Lt => exact two rfl h
  | LtE => exact two rfl h
  | Gt => exact two rfl h
  | GtE => exact two rfl h
  | In => exact two rfl h
  | NotIn => exact two rfl h
end
end PyI

namespace PyI
open PySem PySem.Spec PyProof.Rows L2
section
variable {ca : Str → Addr} {φ : Str → Fn} {k : Nat} {c : CC} {X : Cx} {W : WX} {r : Rc}
theorem int_rule {op : CmpOp} {p : Prm} (hp : intPrm op = some p) : OpR X (compareOp op) (Prim2 X.K (den p)) := by
  cases op <;> first | (cases hp; done) | skip
  · cases hp; exact rl_lt
  · cases hp; exact rl_le
  · cases hp; exact rl_gt
  · cases hp; exact rl_ge
theorem s_chain (R : RcOk ca φ k r) (O : XOk ca φ k c X W) {a b d : Expr} {op op' : CmpOp} {pos : Pos} {ir : E} (h : cChain r c a op op' b d = some ir) :
    Snd ca φ X W false (.Compare a [op, op'] [b, d] pos) ir ∧ Snd ca φ X W true (.Compare a [op, op'] [b, d] pos) ir := by
  have pl : Pl (.Compare a [op, op'] [b, d] pos) := pl_of _ (by simp) (by simp)
  unfold cChain at h
  cases q1 : intPrm op with
  | none => rw [q1] at h; cases h
  | some p =>
  rw [q1] at h
  cases q2 : intPrm op' with
  | none => rw [q2] at h; cases h
  | some p' =>
  rw [q2] at h
  cases q3 : r c false a with
  | none => rw [q3] at h; cases h
  | some ea =>
  rw [q3] at h
  cases q4 : r c false b with
  | none => rw [q4] at h; cases h
  | some eb =>
  rw [q4] at h
  cases q5 : r c false d with
  | none => rw [q5] at h; cases h
  | some ed =>
  rw [q5] at h
  cases h
  obtain ⟨_, sa⟩ := R c X W false a ea O q3
  obtain ⟨pb, sb⟩ := R c X W false b eb O q4
  obtain ⟨pd, sd⟩ := R c X W false d ed O q5
  have hm : lastMarks [op, op'] [b, d] = false := by
    show behindInMarks op' d = false
    exact pd.bm _
  have w : ∀ σ H Q, TEv X.K ca W (evE φ (.chain p p' ea eb ed)) σ H Q → tChain (Prim2 X.K (den p)) (Prim2 X.K (den p')) (TEv X.K ca W (evE φ ea)) (TEv X.K ca W (evE φ eb)) (TEv X.K ca W (evE φ ed)) σ H Q := fun σ H Q q => ch_run (by simpa only [evE] using q)
  exact ⟨⟨pl, (pe_chain (int_rule q1) (int_rule q2) sa sb sd hm).weak w⟩, pl, (pt_chain (int_rule q1) (int_rule q2) sa sb sd hm).weak fun σ H Q q => w σ H _ q⟩
theorem s_boolV (R : RcOk ca φ k r) (O : XOk ca φ k c X W) {op : BoolOp} {pos : Pos} : ∀ {vs : List Expr} {ir : E}, cBool r c false op vs = some ir → PE X (.BoolOp op vs pos) (TEv X.K ca W (evE φ ir))
  | [], _, h => by cases h
  | [a], ir, h => pe_one (R c X W false a ir O h).2
  | a :: b :: rest, ir, h => by
    unfold cBool at h
    cases q1 : r c false a with
    | none => rw [q1] at h; cases h
    | some ea =>
    rw [q1] at h
    cases q2 : cBool r c false op (b :: rest) with
    | none => rw [q2] at h; cases h
    | some eb =>
    rw [q2] at h
    have ih := s_boolV R O (pos := pos) q2
    obtain ⟨_, sa⟩ := R c X W false a ea O q1
    cases op with
    | And => cases h; simp only [evE]; exact xe_and sa ih
    | Or => cases h; simp only [evE]; exact xe_or sa ih
theorem s_boolT (R : RcOk ca φ k r) (O : XOk ca φ k c X W) {op : BoolOp} {pos : Pos} : ∀ {vs : List Expr} {ir : E}, cBool r c true op vs = some ir → PW X (.BoolOp op vs pos) (TTv X.K ca W (evE φ ir))
  | [], _, h => by cases h
  | [a], ir, h => by
    have s := (R c X W true a ir O h).2
    cases op with
    | And => exact xt_and1 s
    | Or => exact xt_or1 s
  | a :: b :: rest, ir, h => by
    unfold cBool at h
    cases q1 : r c true a with
    | none => rw [q1] at h; cases h
    | some ea =>
    rw [q1] at h
    cases q2 : cBool r c true op (b :: rest) with
    | none => rw [q2] at h; cases h
    | some eb =>
    rw [q2] at h
    have ih := s_boolT R O (pos := pos) q2
    obtain ⟨_, sa⟩ := R c X W true a ea O q1
    cases op with
    | And => cases h; simp only [evE]; exact xt_and sa ih
    | Or => cases h; simp only [evE]; exact xt_or sa ih
/-! slices -/
theorem s_slice (R : RcOk ca φ k r) (O : XOk ca φ k c X W) {a : Expr} {lo hi st : Option Expr} {pos p2 : Pos} {ir : E} (h : cSlice r c a lo hi st = some ir) : PE X (.Subscript a (.Slice lo hi st p2) pos) (TEv X.K ca W (evE φ ir)) := by
  unfold cSlice at h
  split at h
  · cases q1 : cO r c a with
    | none => rw [q1] at h; cases h
    | some oa =>
      rw [q1] at h; cases h
      obtain ⟨ha, _⟩ := o_ok R O q1
      refine prim_te (pe_slice rl_sl ha po_none po_none) fun σ H Q q => TEo (show tOpd X.K ca W (evO φ oa) σ H (fun x H1 => PrimR X.K dSl00 [x] H1 Q) from q) fun x H1 ⟨G, ds, s, sub, pr, e, q⟩ => ?_
      obtain ⟨d, rfl, rd⟩ := pr1 pr
      exact ⟨G, d, s, sub, rd, e, q⟩
  · rename_i l
    cases q1 : cO r c a with
    | none => rw [q1] at h; cases h
    | some oa =>
      rw [q1] at h
      cases q2 : r c false l with
      | none => rw [q2] at h; cases h
      | some el =>
        rw [q2] at h; cases h
        obtain ⟨ha, _⟩ := o_ok R O q1
        obtain ⟨_, sl⟩ := R c X W false l el O q2
        refine prim_te (pe_slice rl_sl ha (po_some sl) po_none) fun σ H Q q => TEo (show tOpd X.K ca W (evO φ oa) σ H (fun x H1 => TEv X.K ca W (evE φ el) σ H1 fun y H2 => PrimR X.K dSl10 [x, y] H2 Q) from q) fun x H1 q => TEv_mono q fun y H2 ⟨G, ds, s, sub, pr, e, q⟩ => ?_
        obtain ⟨d, d2, rfl, rd, rd2⟩ := pr2 pr
        unfold dSl10 at e
        split at e
        · rename_i ea; cases ea
          exact ⟨_, rp_int rd2, G, _, s, sub, rd, e, q⟩
        · cases e
  · rename_i l
    cases q1 : cO r c a with
    | none => rw [q1] at h; cases h
    | some oa =>
      rw [q1] at h
      cases q2 : r c false l with
      | none => rw [q2] at h; cases h
      | some el =>
        rw [q2] at h; cases h
        obtain ⟨ha, _⟩ := o_ok R O q1
        obtain ⟨_, sl⟩ := R c X W false l el O q2
        refine prim_te (pe_slice rl_sl ha po_none (po_some sl)) fun σ H Q q => TEo (show tOpd X.K ca W (evO φ oa) σ H (fun x H1 => TEv X.K ca W (evE φ el) σ H1 fun y H2 => PrimR X.K dSl01 [x, y] H2 Q) from q) fun x H1 q => TEv_mono q fun y H2 ⟨G, ds, s, sub, pr, e, q⟩ => ?_
        obtain ⟨d, d2, rfl, rd, rd2⟩ := pr2 pr
        unfold dSl01 at e
        split at e
        · rename_i ea; cases ea
          exact ⟨_, rp_int rd2, G, _, s, sub, rd, e, q⟩
        · cases e
  · rename_i j p1 p3
    cases q1 : cO r c a with
    | none => rw [q1] at h; cases h
    | some oa =>
      rw [q1] at h; cases h
      obtain ⟨ha, _⟩ := o_ok R O q1
      refine prim_te (pe_revL ha) fun σ H Q q => TEo (show tOpd X.K ca W (evO φ oa) σ H (fun x H1 => PrimR X.K dRev [x] H1 Q) from q) fun x H1 ⟨G, ds, s, sub, pr, e, q⟩ => ?_
      obtain ⟨d, rfl, rd⟩ := pr1 pr
      unfold dRev at e
      split at e
      · rename_i ea; cases ea; cases e
        obtain ⟨a1, v1, rfl, h1, k1⟩ := rp_lst sub rd
        exact ⟨a1, v1, rfl, h1, fun p hp => pe_newL sub q (DpAll_rev k1) hp⟩
      · cases e
  · cases h
end
end PyI

namespace PyI
open PySem PySem.Spec PyProof.Rows L2
/-! ## walks -/
section
variable {X : Cx} {tg : Expr}
def iAny (K : PySem.W.Frag) (tl : TE) : TI := fun σ H R => tl σ H fun x H1 => (∃ a, x = .ref a ∧ ∃ xs, SqL K H1 a xs ∧ (xs.length ≤ sizeLine → R (Itl K a) H1)) ∨ (∃ a, x = .ref a ∧ ∃ xs, SqT K H1 a xs ∧ (xs.length ≤ sizeLine → R (Itt K a) H1)) ∨ ∃ z, x = .str z ∧ R (Its z) H1
theorem pi_any {l : Expr} {tl : TE} (hl : PE X l tl) : PI X tg l (iAny X.K tl) := by
  refine ⟨fun pins s σ H R I h => ?_⟩
  refine thn (hl.run pins s σ H _ I h) fun v s1 ⟨x, H1, I1, r1, q1⟩ => ?_
  rcases q1 with ⟨a, e, xs, hq, q⟩ | ⟨a, e, xs, hq, q⟩ | ⟨z, e, q⟩
  · subst e
    cases r1
    obtain ⟨its, rv, p, hz⟩ := I1.list hq
    refine wpAny_pyIter_list p.isList ?_
    refine ⟨s1.heap.objs.size, [s1.heap.objs.size], _, _, H1, rfl, I1.kept (t' := s1.toks) fun b o e => Heap.get?_push_of_some _ e, turn_list a _, ⟨_, Heap.get?_push_size _ rfl, rfl, rfl⟩, fun b hb => ?_, q hz⟩
    have e : b = s1.heap.objs.size := by simpa using hb
    subst e
    exact I1.fpOk (Nat.le_refl _) (I1.hok.fresh (Nat.le_refl _))
  · subst e
    cases r1
    obtain ⟨its, rv, p, hz⟩ := I1.tuple hq
    refine wpAny_pyIter_tuple (show s1.heap.IsTuple a its.toArray from p) ?_
    refine ⟨s1.heap.objs.size, [s1.heap.objs.size], _, _, H1, rfl, I1.kept (t' := s1.toks) fun b o e => Heap.get?_push_of_some _ e, turn_tuple a _, ⟨_, Heap.get?_push_size _ rfl, rfl, rfl⟩, fun b hb => ?_, q hz⟩
    have e : b = s1.heap.objs.size := by simpa using hb
    subst e
    exact I1.fpOk (Nat.le_refl _) (I1.hok.fresh (Nat.le_refl _))
  · subst e
    obtain ⟨t, rfl⟩ := r1
    cases ha : z.cps.all (· < 128)
    · exact wpAny_pyIter_wide ha (pi_one (tk := s1.toks) I1 _ (turn_str _ z t "str_iterator" (.inr rfl)) ⟨_, Heap.get?_push_size _ rfl, rfl, rfl⟩ q)
    · exact wpAny_pyIter_ascii ha (pi_one (tk := s1.toks) I1 _ (turn_str _ z t "str_ascii_iterator" (.inl rfl)) ⟨_, Heap.get?_push_size _ rfl, rfl, rfl⟩ q)
def iEnumS (K : PySem.W.Frag) (ta : TA) : TI := fun σ H R => ta σ H fun vs H1 => ∃ a xs, vs = [.ref a] ∧ SqL K H1 a xs ∧ (xs.length ≤ sizeLine → R (Ite K a) H1)
theorem pi_enumS {e : Expr} {ta : TA} {p pos tpos : Pos} {elts : List Expr} {kk : Nat} (hg : Gl X "enumerate") (hm : X.mg "enumerate" = none) (ha : PA X [e] ta) (hs : starEach [e] X.env = [(false, eval e X.env)]) :
    PI X (.Tuple elts kk tpos) (.Call (.Name "enumerate" p) [e] [] pos) (iEnumS X.K ta) := by
  refine ⟨fun pins s σ H R I h => ?_⟩
  refine Call_ (ld_blt I hg hm boot_enumerate (PyProof.Rows.callWith_type1 (thn (ha.run pos pins s σ H _ I h) fun us s1 ⟨vs, H1, I1, r1, q1⟩ => ?_) hs rfl))
  obtain ⟨a, xs, ex, hq, q⟩ := q1
  subst ex
  cases r1 with
  | cons r rr =>
    cases rr
    cases r
    obtain ⟨its, rv, p', hz⟩ := I1.list hq
    refine call_enumerate_list p'.isList fun h' he hit hsz hk => wpAny_pyIter_enum he ?_
    have I2 : L2.Inv X pins σ H1 { s1 with heap := h' } := I1.kept (t' := s1.toks) hk
    refine ⟨s1.heap.objs.size + 1, [s1.heap.objs.size + 1, s1.heap.objs.size], _, _, H1, rfl, I2, turn_enum a (s1.heap.objs.size + 1) s1.heap.objs.size, ⟨⟨.none, he⟩, hit, Nat.succ_ne_self _⟩, fun b hb => ?_, q hz⟩
    have e' : b = s1.heap.objs.size + 1 ∨ b = s1.heap.objs.size := by simpa using hb
    have hle : s1.heap.objs.size ≤ b := by
      rcases e' with z | z
      · rw [z]; exact Nat.le_add_right _ _
      · rw [z]; exact Nat.le_refl _
    exact I1.fpOk hle (I1.hok.fresh hle)
def iZipS (K : PySem.W.Frag) (ta : TA) : TI := fun σ H R => ta σ H fun vs H1 => ∃ a b xs ys, vs = [.ref a, .ref b] ∧ SqL K H1 a xs ∧ SqL K H1 b ys ∧ (xs.length ≤ sizeLine → R (Itz K a b) H1)
theorem pi_zipS {e e2 : Expr} {ta : TA} {p pos tpos : Pos} {elts : List Expr} {kk : Nat} (hg : Gl X "zip") (hm : X.mg "zip" = none) (ha : PA X [e, e2] ta)
    (hs : starEach [e, e2] X.env = (false, eval e X.env) :: starEach [e2] X.env) (hpl : (backTo pos (starEach [e2] X.env)).any (·.1) = false) :
    PI X (.Tuple elts kk tpos) (.Call (.Name "zip" p) [e, e2] [] pos) (iZipS X.K ta) := by
  refine ⟨fun pins s σ H R I h => ?_⟩
  refine Call_ (ld_blt I hg hm PyProof.Rows.boot_zip (PyProof.Rows.callWith_type1 (thn (ha.run pos pins s σ H _ I h) fun us s1 ⟨vs, H1, I1, r1, q1⟩ => ?_) hs hpl))
  obtain ⟨a, b, xs, ys, ex, hqx, hqy, q⟩ := q1
  subst ex
  cases r1 with
  | cons r rr =>
    cases rr with
    | cons r' rr =>
      cases rr
      cases r
      cases r'
      obtain ⟨its, rv, p1, hzz⟩ := I1.list hqx
      obtain ⟨its2, rv2, p2, _⟩ := I1.list hqy
      have la : a < s1.heap.objs.size := p1.lt
      have lb : b < s1.heap.objs.size := p2.lt
      refine call_zip_2 p1.isList p2.isList fun h' hz hTI hTO h1 h2 hsz hk => wpAny_pyIter_zip hz ?_
      have I2 : L2.Inv X pins σ H1 { s1 with heap := h' } := I1.kept (t' := s1.toks) hk
      refine ⟨s1.heap.objs.size + 4, [s1.heap.objs.size + 4, s1.heap.objs.size + 2, s1.heap.objs.size + 3, s1.heap.objs.size, s1.heap.objs.size + 1], _, _, H1, rfl, I2, turn_zip (PySem.W.ktu_apart s1.heap.objs.size a b la lb), ⟨hz, hTI, ⟨_, _, hTO⟩, h1, h2⟩, fun c hcm => ?_, q hzz⟩
      have e' : c = s1.heap.objs.size + 4 ∨ c = s1.heap.objs.size + 2 ∨ c = s1.heap.objs.size + 3 ∨ c = s1.heap.objs.size ∨ c = s1.heap.objs.size + 1 := by simpa using hcm
      have hle : s1.heap.objs.size ≤ c := by
        rcases e' with z | z | z | z | z
        · rw [z]; exact Nat.le_add_right _ _
        · rw [z]; exact Nat.le_add_right _ _
        · rw [z]; exact Nat.le_add_right _ _
        · rw [z]; exact Nat.le_refl _
        · rw [z]; exact Nat.le_add_right _ _
      exact I1.fpOk hle (I1.hok.fresh hle)
end
section
variable {K : PySem.W.Frag} {ca : Str → Addr} {W : WX} {G H : Hp}
theorem good0 (s : Sub G H) : Good G H [] := ⟨s, by simp, .nil⟩
theorem itl_ok {a : Addr} {vs : List V} {ds : List PyData} (h : SqL K G a vs) (d : DpAll K G vs ds) (z : vs.length ≤ sizeLine) : IterOk K G H (Itl K a) ds where
  sz := by rw [← DpAll_len d]; exact z
  turn := fun G1 H1 g s i e he => by
    obtain ⟨v, hv, dv⟩ := DpAll_get d he
    have h1 : SqL K H1 a vs := seqL_mono s (seqL_mono g h)
    refine ⟨⟨vs, v, h1, hv⟩, fun x H' ⟨e1, f⟩ => ⟨G1, ?_, by rw [e1]; exact good0 s, by rw [e1]; exact .refl _ _ _⟩⟩
    have := f vs h1
    rw [hv] at this
    cases this
    exact Dp_mono g dv
  stop := fun G1 H1 g s => ⟨vs, seqL_mono s (seqL_mono g h), by rw [DpAll_len d]; exact Nat.le_refl _⟩
theorem itt_ok {a : Addr} {vs : List V} {ds : List PyData} (h : SqT K G a vs) (d : DpAll K G vs ds) (z : vs.length ≤ sizeLine) : IterOk K G H (Itt K a) ds where
  sz := by rw [← DpAll_len d]; exact z
  turn := fun G1 H1 g s i e he => by
    obtain ⟨v, hv, dv⟩ := DpAll_get d he
    have h1 : SqT K H1 a vs := seqT_mono s (seqT_mono g h)
    refine ⟨⟨vs, v, h1, hv⟩, fun x H' ⟨e1, f⟩ => ⟨G1, ?_, by rw [e1]; exact good0 s, by rw [e1]; exact .refl _ _ _⟩⟩
    have := f vs h1
    rw [hv] at this
    cases this
    exact Dp_mono g dv
  stop := fun G1 H1 g s => ⟨vs, seqT_mono s (seqT_mono g h), by rw [DpAll_len d]; exact Nat.le_refl _⟩
theorem its_ok {z : Str} (hz : z.length ≤ sizeLine) : IterOk K G H (Its z) (z.cps.toList.map fun c => .str ⟨#[c]⟩) where
  sz := by simpa [Str.length] using hz
  turn := fun G1 H1 g s i e he => by
    rw [List.getElem?_map] at he
    cases q : z.cps.toList[i]? with
    | none => rw [q] at he; cases he
    | some c =>
      rw [q] at he
      cases he
      have hi : i < z.cps.size := by
        have := List.getElem?_eq_some_iff.mp q
        obtain ⟨h, _⟩ := this
        simpa using h
      refine ⟨hi, fun x H' ⟨e1, c', hc', ex⟩ => ⟨G1, ?_, by rw [e1]; exact good0 s, by rw [e1]; exact .refl _ _ _⟩⟩
      have : z.cps.toList[i]? = some c' := by rw [Array.getElem?_toList]; exact hc'
      rw [q] at this
      cases this
      rw [ex]
      exact .str _
  stop := fun G1 H1 g s => by
    show z.cps.size ≤ (z.cps.toList.map _).length
    simp
theorem itr_ok {lo : Int} {n : Nat} (hz : n ≤ sizeLine) : IterOk K G H (Itr lo n) (rngOf lo n) where
  sz := by simpa [rngOf] using hz
  turn := fun G1 H1 g s i e he => by
    unfold rngOf at he
    rw [List.getElem?_map] at he
    have hi : i < n := by
      by_cases h : i < n
      · exact h
      · rw [List.getElem?_eq_none (by simp; omega)] at he; cases he
    rw [List.getElem?_range hi] at he
    cases he
    exact ⟨hi, fun x H' ⟨e1, ex⟩ => ⟨G1, by rw [ex]; exact .int _, by rw [e1]; exact good0 s, by rw [e1]; exact .refl _ _ _⟩⟩
  stop := fun G1 H1 g s => by
    show n ≤ (rngOf lo n).length
    simp [rngOf]
/-- a new tuple joins what stays -/
theorem newT {G H : Hp} {p : Addr} {vs : List V} {ds : List PyData} (s : Sub G H) (h : DpAll K G vs ds) (hp : H p = none) : ∃ G', Dp K G' (.ref p) (.tuple ds) ∧ Good G' (upd H p (.tup vs)) [] ∧ Stp [] G H G' (upd H p (.tup vs)) [] := by
  have q := pe_newT (K := K) (Q := fun v H' => ∃ G', Dp K G' v (.tuple ds) ∧ Good G' H' [] ∧ Stp [] G H G' H' []) s (fun v G' H' av r g p => by
    cases r with
    | val d => exact ⟨G', d, g, p⟩) h hp
  exact q
theorem enm_at : ∀ {ds : List PyData} {j i : Nat} {e : PyData}, (enmOf j ds)[i]? = some e → ∃ d, ds[i]? = some d ∧ e = .tuple [.int ((j + i : Nat) : Int), d]
  | [], _, _, _, h => by cases h
  | d :: ds, j, 0, e, h => by cases h; exact ⟨d, rfl, rfl⟩
  | d :: ds, j, i + 1, e, h => by
    obtain ⟨d', h1, h2⟩ := enm_at (ds := ds) (j := j + 1) (i := i) (by simpa [enmOf] using h)
    exact ⟨d', by simpa using h1, by rw [h2]; congr 3; congr 1; omega⟩
theorem enm_len : ∀ (ds : List PyData) (j : Nat), (enmOf j ds).length = ds.length
  | [], _ => rfl
  | d :: ds, j => by simp [enmOf, enm_len ds]
theorem ite_ok {a : Addr} {vs : List V} {ds : List PyData} (h : SqL K G a vs) (d : DpAll K G vs ds) (z : vs.length ≤ sizeLine) : IterOk K G H (Ite K a) (enmOf 0 ds) where
  sz := by rw [enm_len, ← DpAll_len d]; exact z
  turn := fun G1 H1 g s i e he => by
    obtain ⟨d0, he2, rfl⟩ := enm_at he
    obtain ⟨v, hv, dv⟩ := DpAll_get d he2
    have h1 : SqL K H1 a vs := seqL_mono s (seqL_mono g h)
    refine ⟨⟨vs, v, h1, hv⟩, fun x H' ⟨T, y, ex, hT, e1, f⟩ => ?_⟩
    have := f vs h1
    rw [hv] at this
    cases this
    subst ex e1
    rw [Nat.zero_add]
    exact newT s (.cons (.int _) (.cons (Dp_mono g dv) .nil)) hT
  stop := fun G1 H1 g s => ⟨vs, seqL_mono s (seqL_mono g h), by rw [enm_len, DpAll_len d]; exact Nat.le_refl _⟩
theorem zip_at : ∀ {ds es : List PyData} {i : Nat} {e : PyData}, (zipOf ds es)[i]? = some e → ∃ d d', ds[i]? = some d ∧ es[i]? = some d' ∧ e = .tuple [d, d']
  | [], _, _, _, h => by simp [zipOf] at h
  | d :: ds, [], _, _, h => by simp [zipOf] at h
  | d :: ds, d' :: es, 0, e, h => by
    simp [zipOf] at h
    exact ⟨d, d', rfl, rfl, h.symm⟩
  | d :: ds, d' :: es, i + 1, e, h => by
    obtain ⟨x, y, h1, h2, h3⟩ := zip_at (ds := ds) (es := es) (i := i) (by simpa [zipOf] using h)
    exact ⟨x, y, by simpa using h1, by simpa using h2, h3⟩
theorem zip_len : ∀ (ds es : List PyData), (zipOf ds es).length = min ds.length es.length
  | [], _ => by simp [zipOf]
  | d :: ds, [] => by simp [zipOf]
  | d :: ds, e :: es => by simp [zipOf, zip_len ds es]
theorem itz_ok {a b : Addr} {vs ws : List V} {ds es : List PyData} (h : SqL K G a vs) (h' : SqL K G b ws) (d : DpAll K G vs ds) (d' : DpAll K G ws es) (z : vs.length ≤ sizeLine) : IterOk K G H (Itz K a b) (zipOf ds es) where
  sz := by rw [zip_len]; exact Nat.le_trans (Nat.min_le_left _ _) (by rw [← DpAll_len d]; exact z)
  turn := fun G1 H1 g s i e he => by
    obtain ⟨x0, y0, he1, he2, rfl⟩ := zip_at he
    obtain ⟨v, hv, dv⟩ := DpAll_get d he1
    obtain ⟨w, hw, dw⟩ := DpAll_get d' he2
    have h1 : SqL K H1 a vs := seqL_mono s (seqL_mono g h)
    have h2 : SqL K H1 b ws := seqL_mono s (seqL_mono g h')
    refine ⟨⟨vs, ws, v, w, h1, h2, hv, hw⟩, fun x H' ⟨T, y, y2, ex, hT, e1, f, f2⟩ => ?_⟩
    have e3 := f vs h1
    have e4 := f2 ws h2
    rw [hv] at e3
    rw [hw] at e4
    cases e3
    cases e4
    subst ex e1
    exact newT s (.cons (Dp_mono g dv) (.cons (Dp_mono g dw) .nil)) hT
  stop := fun G1 H1 g s => ⟨vs, ws, seqL_mono s (seqL_mono g h), seqL_mono s (seqL_mono g h'), by
    rw [zip_len, DpAll_len d, DpAll_len d']
    omega⟩
/-! readings of walks -/
theorem dp_str {v : V} {z : Str} (h : Dp K G v (.str z)) : v = .str z := by cases h; rfl
theorem seq_it {f : F} {σ : L2.St} {R : It → Hp → Prop} (h : TIv K ca W (seqI f) σ H R) : iAny K (TEv K ca W f) σ H R := by
  obtain ⟨Γ, G, as, r, g, h⟩ := h
  refine ⟨Γ, G, as, r, g, ?_⟩
  unfold seqI at h
  cases q : f Γ with
  | no => rw [q] at h; exact h
  | ex c d e => rw [q] at h; exact h
  | ok s Γ' =>
    rw [q] at h
    simp only [Res.bind] at h
    intro v G' H' av as' rs r' g' p
    cases qz : s.fz with
    | none => rw [qz] at h; exact h.elim
    | some d =>
      rw [qz] at h
      dsimp only at h
      have dv : Dp K (frz G' H' av) v d := rs.frz qz (fun _ z => z) (frz_kG g' (by simp +contextual))
      have rr := r'.frz g'
      have gg := g'.frz
      have pp := p.frz g'
      cases d with
      | list ds =>
        obtain ⟨a, vs, rfl, h1, h2⟩ := dp_lst dv
        exact .inl ⟨a, rfl, vs, seqL_mono gg.sub h1, fun z => h _ _ H' as' (itl_ok h1 h2 z) rr gg pp⟩
      | tuple ds =>
        obtain ⟨a, vs, rfl, h1, h2⟩ := dp_tup dv
        exact .inr (.inl ⟨a, rfl, vs, seqT_mono gg.sub h1, fun z => h _ _ H' as' (itt_ok h1 h2 z) rr gg pp⟩)
      | str z =>
        simp only [itemsOf] at h
        by_cases c : lineB z.length = true
        · rw [if_pos c] at h
          exact .inr (.inr ⟨z, dp_str dv, h _ _ H' as' (its_ok (of_decide_eq_true c)) rr gg pp⟩)
        · rw [if_neg c] at h; exact h.elim
      | none => exact h.elim
      | bool _ => exact h.elim
      | int _ => exact h.elim
      | dict _ => exact h.elim
/-- operands ahead of a walk -/
theorem ops_it {fs : List F} {k : List (Nat ⊕ PyData) → Env → Res (List PyData)} {σ : L2.St} {R : It → Hp → Prop} {Q : List V → Hp → Prop} (h : TIv K ca W (fun Γ => (opsF (fs.map .ex) Γ).bind k) σ H R)
    (hk : ∀ (l : List (Nat ⊕ PyData)) (Γ' : Env) (vs : List V) (G' H' : Hp) (as' : List Addr), (∀ ds, rslv Γ' l = some ds → DpAll K G' vs ds ∧ ds.length = fs.length) → Good G' H' as' → (match k l Γ' with
      | .ok ds Γ2 => ∀ J, Γ2 = Γ' → IterOk K G' H' J ds → R J H'
      | .ex _ _ _ => True
      | .no => False) → Q vs H') : taOs K ca W (fs.map .ex) σ H Q := by
  obtain ⟨Γ, G, as, r, g, h⟩ := h
  refine ops_run _ r g ?_
  dsimp only at h
  cases q : opsF (fs.map .ex) Γ with
  | no => rw [q] at h; exact h
  | ex c d Γ' => rw [q] at h; exact h
  | ok l Γ' =>
    rw [q] at h
    simp only [Res.bind] at h
    intro vs G' H' as' pn r' g' st
    refine hk l Γ' vs G' H' as' (fun ds e => pend_ex pn e ⟨Γ', q⟩) g' ?_
    revert h
    cases k l Γ' with
    | no => exact fun h => h.elim
    | ex _ _ _ => exact fun _ => trivial
    | ok ds Γ2 => exact fun h J e j => h J G' H' as' j (by rw [e]; exact r') g' st
end
end PyI

namespace PyI
open PySem PySem.Spec PyProof.Rows L2
section
variable {ca : Str → Addr} {φ : Str → Fn} {k : Nat} {c : CC} {X : Cx} {W : WX} {r : Rc} {H : Hp}
/-! targets -/
theorem tgslot_ok (O : XOk ca φ k c X W) {x : Str} {i : Nat} {p : Pos} (h : tgSlot c x = some i) : PG X (.Name x p) (gName i) := by
  unfold tgSlot at h
  by_cases q : (lcK (c.sc.names.lookup x) && blkK x c.blk) = true
  · rw [if_pos q] at h
    obtain ⟨q1, q2⟩ := Bool.and_eq_true_iff.mp q
    refine pg_name O.nd (by rw [O.N]; exact idxOf_0 h) ?_ (O.fnl x ?_)
    · show X.env.scope.names.lookup x = some .local ∨ X.env.scope.names.lookup x = some .cell
      rw [O.sc]
      exact lcK_ok q1
    · cases e : c.blk with
      | none => exact .inl rfl
      | some s => rw [e] at q2; exact .inr ⟨s, rfl, lcK_ok q2⟩
  · rw [if_neg q] at h; cases h
theorem names_ok (O : XOk ca φ k c X W) : ∀ {es : List Expr} {is : List Nat}, nameSlots c es = some is → PGs X es (is.foldr (fun i t => gCons (gName i) t) gNil) ∧ (assignEach es X.env).length = is.length ∧ (assignEach es X.env).findIdx? (·.1) = none
  | [], is, h => by cases h; exact ⟨pgs_nil, rfl, rfl⟩
  | e :: es, is, h => by
    cases e with
    | Name x p =>
      simp only [nameSlots] at h
      cases q1 : tgSlot c x with
      | none => rw [q1] at h; cases h
      | some i =>
        rw [q1] at h
        cases q2 : nameSlots c es with
        | none => rw [q2] at h; cases h
        | some js =>
          rw [q2] at h
          cases h
          obtain ⟨p1, p2, p3⟩ := names_ok O q2
          refine ⟨pgs_cons (tgslot_ok O q1) p1 (by rfl), ?_, ?_⟩
          · show (assignEach es X.env).length + 1 = js.length + 1
            rw [p2]
          · show ((false, assign (.Name x p) X.env) :: assignEach es X.env).findIdx? (·.1) = none
            rw [List.findIdx?_cons, p3]
            rfl
    | _ => cases h
def gOf (K : PySem.W.Frag) : Tg → TG
  | .one i => gName i
  | .tup is => gTup K is.length (is.foldr (fun i t => gCons (gName i) t) gNil)
theorem gOf_ok (K : PySem.W.Frag) (tg : Tg) : TgOk K tg (gOf K tg) := by
  cases tg with
  | one i => exact tg_one
  | tup is => exact tg_tup rfl
theorem tg_ok (O : XOk ca φ k c X W) {e : Expr} {tg : Tg} (h : cTg c e = some tg) : PG X e (gOf X.K tg) := by
  cases e with
  | Name x p =>
    simp only [cTg] at h
    cases q : tgSlot c x with
    | none => rw [q] at h; cases h
    | some i => rw [q] at h; cases h; exact tgslot_ok O q
  | Tuple es kk p =>
    simp only [cTg] at h
    cases q : nameSlots c es with
    | none => rw [q] at h; cases h
    | some is =>
      rw [q] at h
      cases h
      obtain ⟨p1, p2, p3⟩ := names_ok O q
      exact pg_tup O.calm p1 p2 p3
  | _ => cases h
/-! walks -/
theorem rng1_run {f : F} {σ : L2.St} {R : It → Hp → Prop} (h : TIv X.K ca W (rngI [f]) σ H R) : iRng1 (taOs X.K ca W [.ex f]) σ H R := by
  refine ops_it (fs := [f]) h fun l Γ' vs G' H' as' dk g h => ?_
  cases q1 : rslv Γ' l with
  | none => unfold rngK at h; rw [q1] at h; exact h.elim
  | some ds =>
    obtain ⟨da, dl⟩ := dk ds q1
    unfold rngK at h
    rw [q1] at h
    dsimp only at h
    match ds, dl, da with
    | [d], _, .cons h1 .nil =>
      cases d with
      | int j =>
        by_cases cc : j ≤ 1000000 ∧ -(2 ^ 62) ≤ j
        · simp only [dRng, if_pos cc] at h
          cases h1
          exact ⟨j, rfl, cc.2, by omega, h _ trivial (itr_ok (by rw [sizeLine_eq]; omega))⟩
        · simp only [dRng, if_neg cc] at h
      | _ => exact h.elim
theorem rng2_run {f f2 : F} {σ : L2.St} {R : It → Hp → Prop} (h : TIv X.K ca W (rngI [f, f2]) σ H R) : iRng2 (taOs X.K ca W [.ex f, .ex f2]) σ H R := by
  refine ops_it (fs := [f, f2]) h fun l Γ' vs G' H' as' dk g h => ?_
  cases q1 : rslv Γ' l with
  | none => unfold rngK at h; rw [q1] at h; exact h.elim
  | some ds =>
    obtain ⟨da, dl⟩ := dk ds q1
    unfold rngK at h
    rw [q1] at h
    dsimp only at h
    match ds, dl, da with
    | [d, d2], _, .cons h1 (.cons h2 .nil) =>
      cases d with
      | int i =>
        cases d2 with
        | int j =>
          by_cases cc : j - i ≤ 1000000 ∧ (-(2 ^ 62) ≤ i ∧ i < 2 ^ 62 ∧ -(2 ^ 62) ≤ j ∧ j < 2 ^ 62)
          · simp only [dRng, if_pos cc] at h
            cases h1
            cases h2
            exact ⟨i, j, rfl, cc.2, h _ trivial (itr_ok (by rw [sizeLine_eq]; omega))⟩
          · simp only [dRng, if_neg cc] at h
        | _ => exact h.elim
      | _ => exact h.elim
theorem enm_run {f : F} {σ : L2.St} {R : It → Hp → Prop} (h : TIv X.K ca W (enmI f) σ H R) : iEnumS X.K (taOs X.K ca W [.ex f]) σ H R := by
  refine ops_it (fs := [f]) h fun l Γ' vs G' H' as' dk g h => ?_
  cases q1 : rslv Γ' l with
  | none => unfold enmK at h; rw [q1] at h; exact h.elim
  | some ds =>
    obtain ⟨da, dl⟩ := dk ds q1
    unfold enmK at h
    rw [q1] at h
    match ds, dl, da with
    | [d], _, .cons h1 .nil =>
      cases d with
      | list es =>
        obtain ⟨a, vs, rfl, e1, e2⟩ := dp_lst h1
        exact ⟨a, vs, rfl, seqL_mono g.sub e1, fun z => h _ rfl (ite_ok e1 e2 z)⟩
      | _ => exact h.elim
theorem zip_run {f f2 : F} {σ : L2.St} {R : It → Hp → Prop} (h : TIv X.K ca W (zipI f f2) σ H R) : iZipS X.K (taOs X.K ca W [.ex f, .ex f2]) σ H R := by
  refine ops_it (fs := [f, f2]) h fun l Γ' vs G' H' as' dk g h => ?_
  cases q1 : rslv Γ' l with
  | none => unfold zipK at h; rw [q1] at h; exact h.elim
  | some ds =>
    obtain ⟨da, dl⟩ := dk ds q1
    unfold zipK at h
    rw [q1] at h
    match ds, dl, da with
    | [d, d2], _, .cons h1 (.cons h2 .nil) =>
      cases d with
      | list es =>
        cases d2 with
        | list es2 =>
          obtain ⟨a, vs, rfl, e1, e2⟩ := dp_lst h1
          obtain ⟨b, ws, rfl, e3, e4⟩ := dp_lst h2
          exact ⟨a, b, vs, ws, rfl, seqL_mono g.sub e1, seqL_mono g.sub e3, fun z => h _ rfl (itz_ok e1 e3 e2 e4 z)⟩
        | _ => exact h.elim
      | _ => exact h.elim
def ItSnd (ca : Str → Addr) (φ : Str → Fn) (X : Cx) (W : WX) (tg e : Expr) (it : I) : Prop := ∃ wi, PI X tg e wi ∧ (∀ σ H Q, TIv X.K ca W (evI φ it) σ H Q → wi σ H Q) ∧ ∀ x, foldedSetIterable e X.env x = pure x
theorem it_gen (R : RcOk ca φ k r) (O : XOk ca φ k c X W) {tg e : Expr} {it : I} (h : (r c false e).map PyI.I.seq = some it) : ItSnd ca φ X W tg e it := by
  cases q : r c false e with
  | none => rw [q] at h; cases h
  | some a =>
    rw [q] at h
    cases h
    obtain ⟨p1, s1⟩ := R c X W false e a O q
    exact ⟨_, pi_any s1, fun σ H Q q => seq_it (by simpa only [evI] using q), p1.fs _⟩
theorem es_one (R : RcOk ca φ k r) (O : XOk ca φ k c X W) {a : Expr} {ea : E} (h : r c false a = some ea) : PA X [a] (taOs X.K ca W [.ex (evE φ ea)]) ∧ Pl a := by
  obtain ⟨p1, s1⟩ := R c X W false a ea O h
  exact ⟨pa_cons s1 pa_nil (p1.st _ _), p1⟩
theorem es_two (R : RcOk ca φ k r) (O : XOk ca φ k c X W) {a b : Expr} {ea eb : E} (h : r c false a = some ea) (h2 : r c false b = some eb) : PA X [a, b] (taOs X.K ca W [.ex (evE φ ea), .ex (evE φ eb)]) ∧ Pl a ∧ Pl b := by
  obtain ⟨p1, s1⟩ := R c X W false a ea O h
  obtain ⟨p2, s2⟩ := R c X W false b eb O h2
  exact ⟨pa_cons s1 (pa_cons s2 pa_nil (p2.st _ _)) (p1.st _ _), p1, p2⟩
theorem it_ok (R : RcOk ca φ k r) (O : XOk ca φ k c X W) {tg e : Expr} {it : I} (h : cI r c (isTupE tg) e = some it) : ItSnd ca φ X W tg e it := by
  unfold cI at h
  split at h
  · rename_i f fp args cp
    by_cases e1 : f = "range"
    · rw [if_pos e1] at h
      subst e1
      by_cases gb : (glB c.sc "range" && c.T.blt.contains "range") = true
      · rw [if_pos gb] at h
        obtain ⟨g1, g2⟩ := Bool.and_eq_true_iff.mp gb
        obtain ⟨gl, _⟩ := gl_ok O g1
        have hm := O.glob.blt _ g2
        match args, h with
        | [a], h =>
          simp only [cEs] at h
          cases q : r c false a with
          | none => rw [q] at h; cases h
          | some ea =>
            rw [q] at h
            cases h
            obtain ⟨pa, pl⟩ := es_one R O q
            exact ⟨_, pi_range1 gl hm pa (by rw [pl.st] <;> rfl), fun σ H Q q => rng1_run (by simpa only [evI, evEs] using q), fun _ => rfl⟩
        | [a, b], h =>
          simp only [cEs] at h
          cases q : r c false a with
          | none => rw [q] at h; cases h
          | some ea =>
            rw [q] at h
            cases q2 : r c false b with
            | none => rw [q2] at h; cases h
            | some eb =>
              rw [q2] at h
              cases h
              obtain ⟨pa, pl, pl2⟩ := es_two R O q q2
              exact ⟨_, pi_range2 gl hm pa (by rw [pl.st, pl2.st] <;> rfl) (by rw [pl2.st] <;> rfl), fun σ H Q q => rng2_run (by simpa only [evI, evEs] using q), fun _ => rfl⟩
      · rw [if_neg gb] at h; cases h
    · rw [if_neg e1] at h
      by_cases e2 : f = "enumerate"
      · rw [if_pos e2] at h
        subst e2
        by_cases gb : (glB c.sc "enumerate" && c.T.blt.contains "enumerate" && isTupE tg) = true
        · rw [if_pos gb] at h
          obtain ⟨gb, tt⟩ := Bool.and_eq_true_iff.mp gb
          obtain ⟨g1, g2⟩ := Bool.and_eq_true_iff.mp gb
          obtain ⟨gl, _⟩ := gl_ok O g1
          have hm := O.glob.blt _ g2
          cases tg <;> first | (cases tt; done) | skip
          match args, h with
          | [a], h =>
            simp only at h
            cases q : r c false a with
            | none => rw [q] at h; cases h
            | some ea =>
              rw [q] at h
              cases h
              obtain ⟨pa, pl⟩ := es_one R O q
              exact ⟨_, pi_enumS gl hm pa (by rw [pl.st] <;> rfl), fun σ H Q q => enm_run (by simpa only [evI] using q), fun _ => rfl⟩
        · rw [if_neg gb] at h; cases h
      · rw [if_neg e2] at h
        by_cases e3 : f = "zip"
        · rw [if_pos e3] at h
          subst e3
          by_cases gb : (glB c.sc "zip" && c.T.blt.contains "zip" && isTupE tg) = true
          · rw [if_pos gb] at h
            obtain ⟨gb, tt⟩ := Bool.and_eq_true_iff.mp gb
            obtain ⟨g1, g2⟩ := Bool.and_eq_true_iff.mp gb
            obtain ⟨gl, _⟩ := gl_ok O g1
            have hm := O.glob.blt _ g2
            cases tg <;> first | (cases tt; done) | skip
            match args, h with
            | [a, b], h =>
              simp only at h
              cases q : r c false a with
              | none => rw [q] at h; cases h
              | some ea =>
                rw [q] at h
                cases q2 : r c false b with
                | none => rw [q2] at h; cases h
                | some eb =>
                  rw [q2] at h
                  cases h
                  obtain ⟨pa, pl, pl2⟩ := es_two R O q q2
                  exact ⟨_, pi_zipS gl hm pa (by rw [pl.st]) (by rw [pl2.st] <;> rfl), fun σ H Q q => zip_run (by simpa only [evI] using q), fun _ => rfl⟩
          · rw [if_neg gb] at h; cases h
        · rw [if_neg e3] at h
          exact it_gen R O h
  · exact it_gen R O h
end
end PyI

namespace PyI
open PySem PySem.Spec PyProof.Rows L2
section
variable {ca : Str → Addr} {φ : Str → Fn} {k : Nat} {c : CC} {X : Cx} {W : WX} {r : Rc}
theorem s_ix (R : RcOk ca φ k r) (O : XOk ca φ k c X W) {a b : Expr} {pos : Pos} {oa ob : PyI.O} (q1 : cO r c a = some oa) (q2 : cO r c b = some ob) (hp : PlainIx b) : PE X (.Subscript a b pos) (TEv X.K ca W (evE φ (.prim .ix [oa, ob]))) := by
  obtain ⟨ha, _⟩ := o_ok R O q1
  obtain ⟨hb, _⟩ := o_ok R O q2
  exact prim_te (pe_ix rl_ix ha hb hp) fun σ H Q q => q
theorem s_sub (R : RcOk ca φ k r) (O : XOk ca φ k c X W) {a b : Expr} {pos : Pos} {ir : E} (h : cSub r c a b = some ir) : PE X (.Subscript a b pos) (TEv X.K ca W (evE φ ir)) := by
  have go : PlainIx b → (match cO r c a, cO r c b with
    | some a, some i => some (E.prim .ix [a, i])
    | _, _ => none) = some ir → PE X (.Subscript a b pos) (TEv X.K ca W (evE φ ir)) := fun hp h => by
    cases q1 : cO r c a with
    | none => rw [q1] at h; cases h
    | some oa =>
      rw [q1] at h
      cases q2 : cO r c b with
      | none => rw [q2] at h; cases h
      | some ob =>
        rw [q2] at h
        cases h
        exact s_ix R O q1 q2 hp
  cases b with
  | Slice lo hi st p => exact s_slice R O h
  | _ => exact go (fun _ _ => rfl) h
/-! comprehensions -/
theorem relS_lookup_own {N : List Str} {scope sc : Scope} {x : Str} (h : scope.names.lookup x = some .local ∨ scope.names.lookup x = some .cell) : (relS scope sc).names.lookup x = some .local ∨ (relS scope sc).names.lookup x = some .cell := by
  rcases h with h | h
  · exact .inl (lookup_relS_keep (by simp) h)
  · exact .inr (lookup_relS_keep (by simp) h)
theorem blk_ok (O : XOk ca φ k c X W) {scope : Scope} (s : Shared) (H : Hp) (C : Addr) (cl : List (Str × Addr)) (fp : List Addr) : XOk ca φ k (inBlk c scope) (X.blk s H scope (compEnvC scope cl C X.env) fp) W0 where
  N := O.N
  nd := O.nd
  sc := by
    show relS scope X.env.scope = relS scope c.sc
    rw [O.sc]
  calm := O.calm
  tk := takes0
  fnl := fun x h => by
    rcases h with h | ⟨s', h, h2⟩
    · cases h
    · cases h
      rcases h2 with h2 | h2
      · exact .inr (lookup_relS_keep (by simp) h2)
      · exact .inl (by show (scope.names.lookup x == some .cell) = true; rw [h2]; rfl)
  room := O.room
  glob := O.glob
def ttOf (K : PySem.W.Frag) (ca : Str → Addr) (W : WX) (φ : Str → Fn) : Option E → TT
  | none => tYes
  | some e => TTv K ca W (evE φ e)
theorem ifs_ok (R : RcOk ca φ k r) (O : XOk ca φ k c X W) {ifs : List Expr} {t : Option E} (h : cIfs r c ifs = some t) : PTs X ifs (ttOf X.K ca W φ t) := by
  match ifs, h with
  | [], h => cases h; exact pts_nil
  | [e], h =>
    simp only [cIfs] at h
    cases q : r c true e with
    | none => rw [q] at h; cases h
    | some ir =>
      rw [q] at h
      cases h
      exact pts_one (R c X W true e ir O q).2
theorem s_comp (R : RcOk ca φ k r) (O : XOk ca φ k c X W) {elt tg iter : Expr} {ifs : List Expr} {scope : Scope} {pos : Pos} {ir : E} (h : cComp r c elt tg iter ifs scope = some ir) : PE X (.ListComp elt [⟨tg, iter, ifs, 0⟩] scope pos) (TEv X.K ca W (evE φ ir)) := by
  unfold cComp at h
  by_cases cb : blkC c.N c.sc scope (ownOf c.N scope) = true
  · rw [if_pos cb] at h
    cases q1 : cI r c (isTupE tg) iter with
    | none => rw [q1] at h; cases h
    | some it =>
    rw [q1] at h
    cases q2 : cTg (inBlk c scope) tg with
    | none => rw [q2] at h; cases h
    | some g =>
    rw [q2] at h
    cases q3 : cIfs r (inBlk c scope) ifs with
    | none => rw [q3] at h; cases h
    | some t =>
    rw [q3] at h
    cases q4 : r (inBlk c scope) false elt with
    | none => rw [q4] at h; cases h
    | some e =>
    rw [q4] at h
    dsimp only at h
    split at h
    · rename_i al
      cases h
      obtain ⟨wi, p1, w1, p2⟩ := it_ok R O q1
      refine (pe_lc (g := gOf X.K g) (tt := ttOf X.K ca W0 φ t) (te := TEv X.K ca W0 (evE φ e)) O.calm O.nd p1 (by rw [O.N, O.sc]; exact blkOk_by cb) (fun s H C cl fp => tg_ok (blk_ok O s H C cl fp) q2) (fun s H C cl fp => ifs_ok R (blk_ok O s H C cl fp) q3) (fun s H C cl fp => (R _ _ _ false _ _ (blk_ok O s H C cl fp) q4).2) p2).weak fun σ H Q q => ?_
      simp only [evE] at q
      refine w1 _ _ _ (comp_run (gOf_ok X.K g) ?_ (fun j hj => ?_) q)
      · cases t <;> rfl
      · obtain ⟨p, h1, h2⟩ := List.any_eq_true.mp (List.all_eq_true.mp al j hj)
        exact List.mem_map.mpr ⟨p, h1, eq_of_beq h2⟩
    · cases h
  · rw [if_neg cb] at h; cases h
/-- name = [..], the list stored by the comprehension itself -/
theorem s_compS (R : RcOk ca φ k r) (O : XOk ca φ k c X W) {elt tg iter : Expr} {ifs : List Expr} {scope : Scope} {pos spos py : Pos} {y : Str} {i : Nat} {ir : E} (h : cComp r c elt tg iter ifs scope = some ir) (hy : X.N[i]? = some y) (hyl : X.env.scope.names.lookup y = some .local)
    (hsw : swapsWith (.ListComp elt [⟨tg, iter, ifs, 0⟩] scope pos) (some (.Name y py)) spos.line X.env = pure true) :
    ∃ t : TE, (∀ D σ H, ∀ g : TG, tAsg (TEv X.K ca W (evE φ ir)) g D σ H → tAsg t g D σ H) ∧ PS X (.Assign [.Name y py] (.ListComp elt [⟨tg, iter, ifs, 0⟩] scope pos) spos) (tAsg t (gName i)) := by
  unfold cComp at h
  by_cases cb : blkC c.N c.sc scope (ownOf c.N scope) = true
  · rw [if_pos cb] at h
    cases q1 : cI r c (isTupE tg) iter with
    | none => rw [q1] at h; cases h
    | some it =>
    rw [q1] at h
    cases q2 : cTg (inBlk c scope) tg with
    | none => rw [q2] at h; cases h
    | some g =>
    rw [q2] at h
    cases q3 : cIfs r (inBlk c scope) ifs with
    | none => rw [q3] at h; cases h
    | some t =>
    rw [q3] at h
    cases q4 : r (inBlk c scope) false elt with
    | none => rw [q4] at h; cases h
    | some e =>
    rw [q4] at h
    dsimp only at h
    split at h
    · rename_i al
      cases h
      obtain ⟨wi, p1, w1, p2⟩ := it_ok R O q1
      refine ⟨_, fun D σ H gg q => ?_, ps_setLc (g := gOf X.K g) (tt := ttOf X.K ca W0 φ t) (te := TEv X.K ca W0 (evE φ e)) O.calm O.nd hy hyl hsw p1 (by rw [O.N, O.sc]; exact blkOk_by cb) (fun s H C cl fp => tg_ok (blk_ok O s H C cl fp) q2) (fun s H C cl fp => ifs_ok R (blk_ok O s H C cl fp) q3) (fun s H C cl fp => (R _ _ _ false _ _ (blk_ok O s H C cl fp) q4).2) p2⟩
      simp only [evE] at q
      refine w1 _ _ _ (comp_run (gOf_ok X.K g) ?_ (fun j hj => ?_) q)
      · cases t <;> rfl
      · obtain ⟨p, h1, h2⟩ := List.any_eq_true.mp (List.all_eq_true.mp al j hj)
        exact List.mem_map.mpr ⟨p, h1, eq_of_beq h2⟩
    · cases h
  · rw [if_neg cb] at h; cases h
end
end PyI

namespace PyI
open PySem PySem.Spec PyProof.Rows L2
section
variable {ca : Str → Addr} {φ : Str → Fn} {k : Nat} {c : CC} {X : Cx} {W : WX} {r : Rc}
theorem blt1_ok (hc : X.calm = true) {f : Str} {p : Prm} (h : blt1 f = some p) : ∃ id, CallR X (.builtin id) (PrimR X.K (den p)) ∧ bootBuiltins f = some (.builtin id) ∧ f ≠ "__name__" ∧ (f == ("__debug__" : Str)) = false := by
  unfold blt1 at h
  split at h
  · rename_i e; subst e; cases h; exact ⟨_, rl_len, boot_len, by decide, by decide⟩
  · split at h
    · rename_i e; subst e; cases h; exact ⟨_, rl_all hc, boot_all, by decide, by decide⟩
    · split at h
      · rename_i e; subst e; cases h; exact ⟨_, rl_any hc, boot_any, by decide, by decide⟩
      · split at h
        · rename_i e; subst e; cases h; exact ⟨_, rl_abs, PyProof.Rows.boot_abs, by decide, by decide⟩
        · split at h
          · rename_i e; subst e; cases h; exact ⟨_, rl_sum hc, boot_sum, by decide, by decide⟩
          · split at h
            · rename_i e; subst e; cases h; exact ⟨_, rl_sorted, boot_sorted, by decide, by decide⟩
            · cases h
theorem ty1_ok {f : Str} {p : Prm} (h : ty1 f = some p) : ∃ T, CallR X (.type T) (PrimR X.K (den p)) ∧ bootBuiltins f = some (.type T) ∧ f ≠ "__name__" ∧ (f == ("__debug__" : Str)) = false := by
  unfold ty1 at h
  split at h
  · rename_i e; subst e; cases h; exact ⟨_, rl_tupleOf, PyProof.Rows.boot_tuple, by decide, by decide⟩
  · split at h
    · rename_i e; subst e; cases h; exact ⟨_, rl_listOf, PyProof.Rows.boot_list, by decide, by decide⟩
    · split at h
      · rename_i e; subst e; cases h; exact ⟨_, rl_int, PyProof.Rows.boot_int, by decide, by decide⟩
      · split at h
        · rename_i e; subst e; cases h; exact ⟨_, rl_str, PyProof.Rows.boot_str, by decide, by decide⟩
        · cases h
theorem blt2_ok (hc : X.calm = true) {f : Str} {p : Prm} (h : blt2 f = some p) : ∃ id, CallR X (.builtin id) (PrimR X.K (den p)) ∧ bootBuiltins f = some (.builtin id) ∧ f ≠ "__name__" ∧ (f == ("__debug__" : Str)) = false := by
  unfold blt2 at h
  split at h
  · rename_i e; subst e; cases h; exact ⟨_, rl_min2 hc, boot_min, by decide, by decide⟩
  · split at h
    · rename_i e; subst e; cases h; exact ⟨_, rl_max2 hc, boot_max, by decide, by decide⟩
    · cases h
theorem pa_one {a : Expr} {o : Opd} (ha : PE X a (tOpd X.K ca W o)) (p : Pl a) : PA X [a] (taOs X.K ca W [o]) := pa_cons ha pa_nil (p.st _ _)
theorem pa_two {a b : Expr} {o o2 : Opd} (ha : PE X a (tOpd X.K ca W o)) (p : Pl a) (hb : PE X b (tOpd X.K ca W o2)) (p2 : Pl b) : PA X [a, b] (taOs X.K ca W [o, o2]) := pa_cons ha (pa_cons hb pa_nil (p2.st _ _)) (p.st _ _)
theorem s_b1 {id : String} {f : Str} {p : Prm} {a : Expr} {oa : PyI.O} {fp pos : Pos} (hg : Gl X f) (hm : X.mg f = none) (hc : CallR X (.builtin id) (PrimR X.K (den p))) (hv : bootBuiltins f = some (.builtin id)) (hn : f ≠ "__name__") (hd : (f == ("__debug__" : Str)) = false)
    (ha : PE X a (tOpd X.K ca W (evO φ oa))) (pa : Pl a) : PE X (.Call (.Name f fp) [a] [] pos) (TEv X.K ca W (evE φ (.prim p [oa]))) :=
  prim_te (pe_callB hc hg hm hv (pa_one ha pa) hn hd (pa.st _ _) rfl) fun σ H Q q => q
theorem s_t1 {id : String} {f : Str} {p : Prm} {a : Expr} {oa : PyI.O} {fp pos : Pos} (hg : Gl X f) (hm : X.mg f = none) (hc : CallR X (.type id) (PrimR X.K (den p))) (hv : bootBuiltins f = some (.type id)) (hn : f ≠ "__name__") (hd : (f == ("__debug__" : Str)) = false)
    (ha : PE X a (tOpd X.K ca W (evO φ oa))) (pa : Pl a) : PE X (.Call (.Name f fp) [a] [] pos) (TEv X.K ca W (evE φ (.prim p [oa]))) :=
  prim_te (pe_callTy hc hg hm hv (pa_one ha pa) hn hd (pa.st _ _) rfl) fun σ H Q q => q
theorem s_b2 {id : String} {f : Str} {p : Prm} {a b : Expr} {oa ob : PyI.O} {fp pos : Pos} (hg : Gl X f) (hm : X.mg f = none) (hc : CallR X (.builtin id) (PrimR X.K (den p))) (hv : bootBuiltins f = some (.builtin id)) (hn : f ≠ "__name__") (hd : (f == ("__debug__" : Str)) = false)
    (ha : PE X a (tOpd X.K ca W (evO φ oa))) (pa : Pl a) (hb : PE X b (tOpd X.K ca W (evO φ ob))) (pb : Pl b) : PE X (.Call (.Name f fp) [a, b] [] pos) (TEv X.K ca W (evE φ (.prim p [oa, ob]))) :=
  prim_te (pe_callB hc hg hm hv (pa_two ha pa hb pb) hn hd (pa.st _ _) (by rw [pb.st] <;> rfl)) fun σ H Q q => q
/-! the size of a set -/
def tLenSetB (K : PySem.W.Frag) (ta : TE) : TE := fun σ H Q => ta σ H fun x H1 => (∃ (l : Addr) (ns : List Int), x = .ref l ∧ SqL K H1 l (ns.map V.int) ∧ ns.Nodup ∧ ns.length ≤ 4000 ∧ Q (.int (ns.length : Nat)) H1) ∨
  ∃ (l : Addr) (ys : List Str), x = .ref l ∧ SqL K H1 l (ys.map V.str) ∧ ys.length ≤ 4000 ∧ Q (.int ((ddup ys).length : Nat)) H1
theorem pe_lenset {a : Expr} {ta : TE} {p p2 q pos : Pos} (hc : X.calm = true) (hg : Gl X "len") (hm : X.mg "len" = none) (hg2 : Gl X "set") (hm2 : X.mg "set" = none) (ha : PE X a ta) (na : starEach [a] X.env = (false, eval a X.env) :: starEach [] X.env) :
    PE X (.Call (.Name "len" p) [.Call (.Name "set" p2) [a] [] q] [] pos) (tLenSetB X.K ta) := by
  refine ⟨fun pins s σ H Q I h => ?_⟩
  refine Call_ (ld_blt I hg hm boot_len (PyProof.Rows.callWith_builtin1 (PyProof.Rows.args_cons ?_ rfl) rfl rfl))
  refine Call_ (ld_blt I hg2 hm2 PyProof.Rows.boot_set ?_)
  refine PyProof.Rows.callWith_type1 (PyProof.Rows.args_cons (thn (ha.run pins s σ H _ I h) fun v s1 ⟨x, H1, I1, r1, q1⟩ => PyProof.Rows.args_nil ?_) na) na rfl
  rcases q1 with ⟨l, ns, rfl, hq, hnd, hl, q1⟩ | ⟨l, ys, rfl, hq, hl, q1⟩
  · cases r1
    obtain ⟨its, r, pl, hz⟩ := I1.list hq
    have len : its.toArray.size = ns.length := by rw [List.size_toArray, ← r.length, List.length_map]
    refine call_set_list (I1.ok.hd hc) pl.isList (by simpa using RZ.intsAre_vals r) (by rw [len]; unfold scanBound; omega) fun h' tk hS hk => PyProof.Rows.args_nil ?_
    rw [len, RZ.firstMet_nodup hnd ns.length (Nat.le_refl _), List.take_length] at hS
    obtain ⟨o, es, ep, t, ho, hex, hd, _, _, _, hf, hn⟩ := hS
    have I2 : L2.Inv X pins σ H1 { s1 with heap := h', toks := tk } := I1.kept fun b o e => hk b o (Heap.lt_size e) e
    exact call_len_set ho hex hd hf (by rw [hn] <;> omega) ⟨.int ns.length, H1, I2.tok _, ⟨_, by rw [hn]⟩, q1⟩
  · cases r1
    obtain ⟨its, r, pl, hz⟩ := I1.list hq
    have len : its.toArray.size = ys.length := by rw [List.size_toArray, ← r.length, List.length_map]
    refine set_of_texts (I1.ok.hd hc) pl.isList (by simpa using strsAre_of r) (by unfold scanBound; omega) fun h' tk hS hk => PyProof.Rows.args_nil ?_
    unfold Held at hS
    rw [len, List.take_length] at hS
    obtain ⟨o, es, ep, t, ho, hex, hd, _, _, _, hf, hn⟩ := hS
    have I2 : L2.Inv X pins σ H1 { s1 with heap := h', toks := tk } := I1.kept fun b o e => hk b o (Heap.lt_size e) e
    have dl := ddup_len ys
    exact call_len_set ho hex hd hf (by rw [hn] <;> omega) ⟨.int (ddup ys).length, H1, I2.tok _, ⟨_, by rw [hn]⟩, q1⟩
theorem lenset_run {o : Opd} {σ : L2.St} {H : Hp} {Q : VK} (h : taOs X.K ca W [o] σ H fun vs H' => PrimR X.K dLenSet vs H' Q) : tLenSetB X.K (tOpd X.K ca W o) σ H Q := by
  refine TEo h fun x H1 q => ?_
  obtain ⟨G, ds, s, sub, pr, e, q⟩ := (show PrimR X.K dLenSet [x] H1 Q from q)
  obtain ⟨d, rfl, rd⟩ := pr1 pr
  unfold dLenSet at e
  split at e
  · rename_i ys ee
    cases ee
    obtain ⟨a1, v1, rfl, h1, k1⟩ := rp_lst sub rd
    cases z : intsOf ys with
    | none =>
      rw [z] at e
      dsimp only at e
      cases z2 : strsOf ys with
      | none => rw [z2] at e; cases e
      | some bs =>
        rw [z2] at e
        dsimp only at e
        split at e
        · rename_i cc
          cases e
          rw [(dp_all_strs k1 z2).1] at h1
          exact .inr ⟨a1, bs, rfl, h1, cc, pe_val sub q (.int _)⟩
        · cases e
    | some bs =>
      rw [z] at e
      dsimp only at e
      split at e
      · rename_i cc
        cases e
        rw [(dp_all_ints k1 z).1] at h1
        exact .inl ⟨a1, bs, rfl, h1, cc.1, cc.2, pe_val sub q (.int _)⟩
      · cases e
  · cases e
/-! isinstance -/
theorem kind_ok (O : XOk ca φ k c X W) {e : Expr} {s : String} (h : kindOf c e = some s) : PE X e (tC (.ty s)) ∧ s ∈ kinds ∧ Pl e := by
  unfold kindOf at h
  split at h
  · rename_i x p
    by_cases gb : (glB c.sc x && c.T.blt.contains x) = true
    · rw [if_pos gb] at h
      obtain ⟨g1, g2⟩ := Bool.and_eq_true_iff.mp gb
      obtain ⟨gl, _⟩ := gl_ok O g1
      have hm := O.glob.blt _ g2
      refine ⟨?_, ?_, pl_of _ (by simp) (by simp)⟩
      · split at h
        · rename_i e; subst e; cases h; exact pe_bltn gl hm PyProof.Rows.boot_int rfl
        · split at h
          · rename_i e; subst e; cases h; exact pe_bltn gl hm PyProof.Rows.boot_bool rfl
          · split at h
            · rename_i e; subst e; cases h; exact pe_bltn gl hm PyProof.Rows.boot_str rfl
            · split at h
              · rename_i e; subst e; cases h; exact pe_bltn gl hm PyProof.Rows.boot_list rfl
              · split at h
                · rename_i e; subst e; cases h; exact pe_bltn gl hm PyProof.Rows.boot_tuple rfl
                · cases h
      · revert h
        (repeat' split) <;> (intro h; cases h) <;> decide
    · rw [if_neg gb] at h; cases h
  · cases h
def tyA : List String → TA
  | [] => tNil
  | n :: ns => tCons (tC (.ty n)) (tyA ns)
theorem kinds_ok (O : XOk ca φ k c X W) : ∀ {es : List Expr} {ss : List String}, kindsOf c es = some ss → PA X es (tyA ss) ∧ ∀ s ∈ ss, s ∈ kinds
  | [], ss, h => by cases h; exact ⟨pa_nil, by simp⟩
  | e :: es, ss, h => by
    unfold kindsOf at h
    cases q1 : kindOf c e with
    | none => rw [q1] at h; cases h
    | some a =>
      rw [q1] at h
      cases q2 : kindsOf c es with
      | none => rw [q2] at h; cases h
      | some b =>
        rw [q2] at h
        cases h
        obtain ⟨p1, p2, p3⟩ := kind_ok O q1
        obtain ⟨p4, p5⟩ := kinds_ok O q2
        exact ⟨pa_cons p1 p4 (p3.st _ _), fun s hs => (List.mem_cons.mp hs).elim (fun z => z ▸ p2) (p5 s)⟩
theorem tyA_run : ∀ {ss : List String} {σ : L2.St} {H : Hp} {Q : List V → Hp → Prop}, Q (ss.map V.ty) H → tyA ss σ H Q
  | [], σ, H, Q, h => h
  | n :: ns, σ, H, Q, h => tyA_run (ss := ns) (Q := fun vs H1 => Q (V.ty n :: vs) H1) h
theorem kitAny_ok {d : PyData} (hd : match d with
    | .dict _ => False
    | _ => True) {K : PySem.W.Frag} : ∀ {ss : List String}, (∀ s ∈ ss, s ∈ kinds) → PySem.W.kitAny K (.type (tyOf d)) (ss.map Value.type) = some (ss.any fun t => isiB d t)
  | [], _ => rfl
  | s :: ss, h => by
    refine kitAny_cons (kit_ty (kit_at d s (h s (by simp)) hd)) (fun e => ?_) (fun e => ?_)
    · show _ = some (isiB d s || ss.any fun t => isiB d t)
      rw [e, kitAny_ok hd fun s hs => h s (by simp [hs])]
      rfl
    · show (isiB d s || ss.any fun t => isiB d t) = true
      rw [e]; rfl
theorem clsAll : ∀ ss : List String, Paired ClsV (ss.map V.ty) (ss.map Value.type)
  | [] => .nil
  | s :: ss => .cons (.ty s) (clsAll ss)
theorem put_ok {G H : Hp} {p : Addr} {o : HO} (s : Sub G H) (hp : H p = none) : Good G (upd H p o) [] ∧ Stp [] G H G (upd H p o) [] := by
  refine ⟨⟨fun a u e => upd_some (s a u e) fun z => ?_, by simp, .nil⟩, fun a u e _ => upd_some e fun z => ?_, fun _ _ e => e, fun _ _ _ e => e, by simp, fun a z => ?_⟩
  · subst z; rw [s a u e] at hp; cases hp
  · subst z; rw [e] at hp; cases hp
  · by_cases y : a = p
    · subst y; exact absurd hp z
    · rw [upd_ne y]; exact z
theorem isi_one {s : String} (hs : s ∈ kinds) {v : V} {H : Hp} {Q : VK} (h : PrimR X.K (dIsi [s]) [v] H Q) : rIsi X.K [v, .ty s] H Q := by
  obtain ⟨G, ds, s', sub, pr, e, q⟩ := h
  obtain ⟨d, rfl, rd⟩ := pr1 pr
  cases e
  obtain ⟨t1, t2⟩ := ty_of sub rd
  refine ⟨v, .ty s, _, _, isiB d s, rfl, .ty s, t1, kit_ty (kit_at d s hs ?_), ?_⟩
  · clear q pr; cases d <;> first | exact t2 | trivial
  have : ([s].any fun t => isiB d t) = isiB d s := by simp
  rw [this] at q
  exact pe_val sub q (.bl _)
theorem isi_many {ss : List String} (hs : ∀ s ∈ ss, s ∈ kinds) {v : V} {H : Hp} {Q : VK} (h : PrimR X.K (dIsi ss) [v] H Q) {p : Addr} (hp : H p = none) : rIsiT X.K [v, .ref p] (upd H p (.tup (ss.map V.ty))) Q := by
  obtain ⟨G, ds, s', sub, pr, e, q⟩ := h
  obtain ⟨d, rfl, rd⟩ := pr1 pr
  cases e
  obtain ⟨g2, st⟩ := put_ok (o := .tup (ss.map V.ty)) sub hp
  have rd2 : RepP X.K G (upd H p (.tup (ss.map V.ty))) v d := by
    rcases rd with h | ⟨a, vs, ds', e1, e2, h1, h2⟩
    · exact .inl h
    · exact .inr ⟨a, vs, ds', e1, e2, upd_some h1 (fun z => by subst z; rw [h1] at hp; cases hp), h2⟩
  obtain ⟨t1, t2⟩ := ty_of g2.sub rd2
  refine ⟨v, p, _, _, _, _, rfl, upd_same, clsAll ss, t1, kitAny_ok ?_ hs, q _ G _ [] (.val (.bl _)) g2 st⟩
  clear q pr; cases d <;> first | exact t2 | trivial
/-! calls of the def's own names -/
theorem s_call1 (R : RcOk ca φ k r) (O : XOk ca φ k c X W) {f : Str} {a : Expr} {fp pos : Pos} {ir : E} (hg : glB c.sc f = true) (hb : c.T.blt.contains f = true) (h : cCall1 r c f a = some ir) : PE X (.Call (.Name f fp) [a] [] pos) (TEv X.K ca W (evE φ ir)) := by
  obtain ⟨gl, hd⟩ := gl_ok O hg
  have hm := O.glob.blt _ hb
  have len1 : f = "len" → (cO r c a).map (fun a => E.prim .len [a]) = some ir → PE X (.Call (.Name f fp) [a] [] pos) (TEv X.K ca W (evE φ ir)) := fun e h' => by
    subst e
    cases q : cO r c a with
    | none => rw [q] at h'; cases h'
    | some oa =>
      rw [q] at h'
      cases h'
      obtain ⟨ha, pa⟩ := o_ok R O q
      exact s_b1 gl hm rl_len boot_len (by decide) hd ha pa
  unfold cCall1 at h
  by_cases e1 : f = "len"
  · rw [if_pos e1] at h
    cases q0 : isSetCall c a with
    | none => rw [q0] at h; exact len1 e1 h
    | some b =>
      rw [q0] at h
      subst e1
      unfold isSetCall at q0
      split at q0
      · rename_i g gp a' ap
        by_cases eg : g = "set"
        · rw [if_pos eg] at q0
          subst eg
          by_cases gb : (glB c.sc "set" && c.T.blt.contains "set") = true
          · rw [if_pos gb] at q0
            cases q0
            obtain ⟨g1, g2⟩ := Bool.and_eq_true_iff.mp gb
            obtain ⟨gl2, _⟩ := gl_ok O g1
            have hm2 := O.glob.blt _ g2
            dsimp only at h
            cases q : cO r c b with
            | none => rw [q] at h; cases h
            | some ob =>
              rw [q] at h
              cases h
              obtain ⟨hb, pb⟩ := o_ok R O q
              exact prim_te (pe_lenset O.calm gl hm gl2 hm2 hb (pb.st _ _)) fun σ H Q q => lenset_run q
          · rw [if_neg gb] at q0; cases q0
        · rw [if_neg eg] at q0; cases q0
      · cases q0
  · rw [if_neg e1] at h
    cases q1 : blt1 f with
    | some p =>
      rw [q1] at h
      dsimp only at h
      obtain ⟨id, hc, hv, hn, _⟩ := blt1_ok (X := X) O.calm q1
      cases q : cO r c a with
      | none => rw [q] at h; cases h
      | some oa =>
        rw [q] at h
        cases h
        obtain ⟨ha, pa⟩ := o_ok R O q
        exact s_b1 gl hm hc hv hn hd ha pa
    | none =>
      rw [q1] at h
      dsimp only at h
      cases q2 : ty1 f with
      | none => rw [q2] at h; cases h
      | some p =>
        rw [q2] at h
        dsimp only at h
        obtain ⟨id, hc, hv, hn, _⟩ := ty1_ok (X := X) q2
        cases q : cO r c a with
        | none => rw [q] at h; cases h
        | some oa =>
          rw [q] at h
          cases h
          obtain ⟨ha, pa⟩ := o_ok R O q
          exact s_t1 gl hm hc hv hn hd ha pa
theorem s_isi1 (O : XOk ca φ k c X W) {a b : Expr} {oa : PyI.O} {s : String} {fp pos : Pos} (gl : Gl X "isinstance") (hm : X.mg "isinstance" = none) (ha : PE X a (tOpd X.K ca W (evO φ oa))) (pa : Pl a) (q : kindOf c b = some s) :
    PE X (.Call (.Name "isinstance" fp) [a, b] [] pos) (TEv X.K ca W (evE φ (.prim (.isi [s]) [oa]))) := by
  obtain ⟨hb, hs, pb⟩ := kind_ok O q
  refine prim_te (pe_callB call_isi gl hm boot_isinstance (pa_cons ha (pa_cons hb pa_nil (pb.st _ _)) (pa.st _ _)) (by decide) (by decide) (pa.st _ _) (by rw [pb.st] <;> rfl)) fun σ H Q q => ?_
  exact TEo (show tOpd X.K ca W (evO φ oa) σ H (fun x H1 => PrimR X.K (dIsi [s]) [x] H1 Q) from q) fun x H1 q => isi_one hs q
theorem s_isiN (O : XOk ca φ k c X W) {a : Expr} {es : List Expr} {kk : Nat} {tp : Pos} {oa : PyI.O} {ss : List String} {fp pos : Pos} (gl : Gl X "isinstance") (hm : X.mg "isinstance" = none) (ha : PE X a (tOpd X.K ca W (evO φ oa))) (pa : Pl a) (q : kindsOf c es = some ss) (hz : ss.length ≤ sizeLine) :
    PE X (.Call (.Name "isinstance" fp) [a, .Tuple es kk tp] [] pos) (TEv X.K ca W (evE φ (.prim (.isi ss) [oa]))) := by
  obtain ⟨hb, hs⟩ := kinds_ok O q
  refine prim_te (pe_callB call_isiT gl hm boot_isinstance (pa_cons ha (pa_cons (pe_tup hb) pa_nil rfl) (pa.st _ _)) (by decide) (by decide) (pa.st _ _) rfl) fun σ H Q q => ?_
  exact TEo (show tOpd X.K ca W (evO φ oa) σ H (fun x H1 => PrimR X.K (dIsi ss) [x] H1 Q) from q) fun x H1 q => tyA_run ⟨by simpa using hz, fun p hp => isi_many hs q hp⟩
theorem s_call2 (R : RcOk ca φ k r) (O : XOk ca φ k c X W) {f : Str} {a b : Expr} {fp pos : Pos} {ir : E} (hg : glB c.sc f = true) (hb : c.T.blt.contains f = true) (h : cCall2 r c f a b = some ir) : PE X (.Call (.Name f fp) [a, b] [] pos) (TEv X.K ca W (evE φ ir)) := by
  obtain ⟨gl, hd⟩ := gl_ok O hg
  have hm := O.glob.blt _ hb
  unfold cCall2 at h
  by_cases e1 : f = "isinstance"
  · rw [if_pos e1] at h
    subst e1
    have go : (match kindOf c b, cO r c a with
      | some k, some a => some (E.prim (.isi [k]) [a])
      | _, _ => none) = some ir → PE X (.Call (.Name "isinstance" fp) [a, b] [] pos) (TEv X.K ca W (evE φ ir)) := fun h => by
      cases q1 : kindOf c b with
      | none => rw [q1] at h; cases h
      | some s =>
        rw [q1] at h
        cases q : cO r c a with
        | none => rw [q] at h; cases h
        | some oa =>
          rw [q] at h
          cases h
          obtain ⟨ha, pa⟩ := o_ok R O q
          exact s_isi1 O gl hm ha pa q1
    cases b with
    | Tuple es kk tp =>
      dsimp only at h
      cases q1 : kindsOf c es with
      | none => rw [q1] at h; cases h
      | some ss =>
        rw [q1] at h
        cases q : cO r c a with
        | none => rw [q] at h; cases h
        | some oa =>
          rw [q] at h
          dsimp only at h
          by_cases cz : lineB ss.length = true
          · rw [if_pos cz] at h
            cases h
            obtain ⟨ha, pa⟩ := o_ok R O q
            exact s_isiN O gl hm ha pa q1 (of_decide_eq_true cz)
          · rw [if_neg cz] at h; cases h
    | _ => exact go h
  · rw [if_neg e1] at h
    cases q1 : blt2 f with
    | none => rw [q1] at h; cases h
    | some p =>
    rw [q1] at h
    cases q2 : cO r c a with
    | none => rw [q2] at h; cases h
    | some oa =>
    rw [q2] at h
    cases q3 : cO r c b with
    | none => rw [q3] at h; cases h
    | some ob =>
    rw [q3] at h
    cases h
    obtain ⟨id, hc, hv, hn, _⟩ := blt2_ok (X := X) O.calm q1
    obtain ⟨ha, pa⟩ := o_ok R O q2
    obtain ⟨hb, pb⟩ := o_ok R O q3
    exact s_b2 gl hm hc hv hn hd ha pa hb pb
theorem evEs_len (φ : Str → Fn) : ∀ es : List E, (evEs φ es).length = es.length
  | [] => rfl
  | e :: es => by simp [evEs, evEs_len φ es]
theorem s_call (R : RcOk ca φ k r) (O : XOk ca φ k c X W) {f : Str} {args : List Expr} {fp pos : Pos} {ir : E} (h : cCall r c f args = some ir) : PE X (.Call (.Name f fp) args [] pos) (TEv X.K ca W (evE φ ir)) := by
  unfold cCall at h
  by_cases hg : glB c.sc f = true
  case neg => rw [if_neg hg] at h; cases h
  rw [if_pos hg] at h
  obtain ⟨gl, hd⟩ := gl_ok O hg
  cases q1 : c.T.fns.lookup f with
  | none =>
    rw [q1] at h
    dsimp only at h
    by_cases hb : c.T.blt.contains f = true
    case neg => rw [if_neg hb] at h; cases h
    rw [if_pos hb] at h
    match args, h with
    | [a], h => exact s_call1 R O hg hb h
    | [a, b], h => exact s_call2 R O hg hb h
  | some i =>
    rw [q1] at h
    dsimp only at h
    obtain ⟨fa, fd, ps, hm, hk, hbi, hF⟩ := O.glob.fns f i q1
    by_cases hio : i.io = true
    · rw [if_pos hio] at h
      split at h
      · rename_i x xp rest
        cases q2 : slotOf c x with
        | none => rw [q2] at h; cases h
        | some j =>
        rw [q2] at h
        cases q3 : cEs r c rest with
        | none => rw [q3] at h; cases h
        | some es =>
        rw [q3] at h
        dsimp only at h
        by_cases hn : es.length + 1 = i.n
        case neg => rw [if_neg hn] at h; cases h
        rw [if_pos hn] at h
        cases h
        obtain ⟨pa, pl⟩ := es_ok R O q3
        refine (pe_callS hF O.room gl hm hk hbi (passAt O.tk) (pa_cons (slot_ok O q2) pa rfl) hd rfl (plains _ _ pl)).weak fun σ H Q q => ?_
        simp only [evE] at q
        have := callIO_run q
        rw [evEs_len, hn] at this
        rw [hio]
        exact this
      · cases h
    · rw [if_neg hio] at h
      match args, h with
      | a :: rest, h =>
        dsimp only at h
        cases q3 : cEs r c (a :: rest) with
        | none => rw [q3] at h; cases h
        | some es =>
        rw [q3] at h
        dsimp only at h
        by_cases hn : es.length = i.n
        case neg => rw [if_neg hn] at h; cases h
        rw [if_pos hn] at h
        cases h
        obtain ⟨pa, pl⟩ := es_ok R O q3
        refine (pe_callS hF O.room gl hm hk hbi (passAt O.tk) pa hd ((pl a (by simp)).st _ _) (plains _ _ fun e he => pl e (by simp [he]))).weak fun σ H Q q => ?_
        simp only [evE] at q
        have := call_run q
        rw [evEs_len, hn] at this
        rw [show i.io = false by simpa using hio]
        exact this
/-! calls that only look -/
theorem plain_dp {K : PySem.W.Frag} {G G' : Hp} {v : V} {d : PyData} (h : Dp K G v d) (p : plainD d = true) : Dp K G' v d := by
  cases h with
  | non => exact .non
  | bl b => exact .bl b
  | int i => exact .int i
  | str z => exact .str z
  | lst _ _ => cases p
  | tup _ _ => cases p
theorem fz_all {G H : Hp} {as : List Addr} {σ : L2.St} {Γ : Env} (r : RepE X.K G H σ Γ as) (g : Good G H as) : ∀ {is : List Nat} {ds : List PyData}, fzAll Γ is = some ds → ∃ vs, DpAll X.K (frz G H as) vs ds ∧ vs.length = is.length ∧ ∀ Q : List V → Hp → Prop, Q vs H → taOs X.K ca W (is.map .pl) σ H Q
  | [], ds, h => by cases h; exact ⟨[], .nil, rfl, fun Q q => q⟩
  | i :: is, ds, h => by
    unfold fzAll at h
    cases q0 : Γ[i]? with
    | none => rw [q0] at h; cases h
    | some s =>
      rw [q0] at h
      simp only [Option.bind] at h
      cases q1 : s.fz with
      | none => rw [q1] at h; cases h
      | some d =>
        rw [q1] at h
        cases q2 : fzAll Γ is with
        | none => rw [q2] at h; cases h
        | some ds' =>
          rw [q2] at h
          cases h
          obtain ⟨vs, h1, h2, h3⟩ := fz_all r g q2
          obtain ⟨v, av, hv, rs, hm⟩ := r.val q0 (fun z => by subst z; cases q1)
          exact ⟨v :: vs, .cons (rs.frz q1 hm (frz_kG g fun _ z => z)) h1, by simp [h2], fun Q q => ⟨v, hv, h3 (fun vs H => Q (v :: vs) H) q⟩⟩
theorem callK_run {f : Fn} {is : List Nat} {σ : L2.St} {H : Hp} {Q : VK} (h : TEv X.K ca W (callK f is) σ H Q) : taOs X.K ca W (is.map .pl) σ H fun vs H' => SpF X.K ca false is.length f vs H' Q (WE W σ) := by
  obtain ⟨Γ, G, as, r, g, h⟩ := h
  unfold callK at h
  cases q1 : fzAll Γ is with
  | none => rw [q1] at h; exact h.elim
  | some ds =>
    rw [q1] at h
    dsimp only at h
    obtain ⟨vs, h1, h2, h3⟩ := fz_all (ca := ca) (W := W) r g q1
    have gf : Good (frz G H as) H [] := Good.frz (as := []) (by rw [List.append_nil]; exact g)
    refine h3 _ ⟨h2, frz G H as, [], ds.map .val, repL_vals h1, gf, fun _ => rfl, ?_⟩
    cases q2 : f (ds.map .val) with
    | no => rw [q2] at h; exact h.elim
    | ex _ _ _ => rw [q2] at h; exact h.elim
    | ok s b =>
      rw [q2] at h
      cases s with
      | un => exact h.elim
      | lst _ => exact h.elim
      | tup _ => exact h.elim
      | val d =>
        dsimp only at h
        by_cases pd : plainD d = true
        case neg => rw [if_neg pd] at h; exact h.elim
        rw [if_pos pd] at h
        intro v G' H' av ab rs _ _ g' st
        cases rs with
        | val hd =>
          have hk : ∀ a o, H a = some o → H' a = some o := fun a o e => st.kH a o e (by simp)
          refine h v G H' [] as (.val (plain_dp hd pd)) (r.car ⟨fun _ _ e => e, fun a _ o e => hk a o e⟩) ⟨fun a o e => hk a o (g.sub a o e), fun a z => ⟨(g.own a z).1, ?_⟩, g.nd⟩ ⟨fun a o e _ => hk a o e, fun _ _ e => e, fun _ _ _ e => e, fun a z => .inl z, fun a z => ?_⟩
          · exact st.there a (g.own a z).2
          · exact st.there a z
theorem slots_ok (O : XOk ca φ k c X W) : ∀ {es : List Expr} {is : List Nat}, allSlots c es = some is → PA X es (taOs X.K ca W (is.map .pl)) ∧ ∀ e ∈ es, Pl e
  | [], is, h => by cases h; exact ⟨pa_nil, by simp⟩
  | e :: es, is, h => by
    cases e with
    | Name x p =>
      simp only [allSlots] at h
      cases q1 : slotOf c x with
      | none => rw [q1] at h; cases h
      | some i =>
        rw [q1] at h
        cases q2 : allSlots c es with
        | none => rw [q2] at h; cases h
        | some js =>
          rw [q2] at h
          cases h
          obtain ⟨p1, p2⟩ := slots_ok O q2
          have pl : Pl (.Name x p) := pl_of _ (by simp) (by simp)
          exact ⟨pa_cons (slot_ok O q1) p1 rfl, fun e' he => (List.mem_cons.mp he).elim (fun z => z ▸ pl) (fun z => p2 e' z)⟩
    | _ => cases h
theorem s_callK (O : XOk ca φ k c X W) {f : Str} {args : List Expr} {fp pos : Pos} {ir : E} (h : cCallK c f args = some ir) : PE X (.Call (.Name f fp) args [] pos) (TEv X.K ca W (evE φ ir)) := by
  unfold cCallK at h
  by_cases hg : glB c.sc f = true
  case neg => rw [if_neg hg] at h; cases h
  rw [if_pos hg] at h
  obtain ⟨gl, hd⟩ := gl_ok O hg
  cases q1 : c.T.fns.lookup f with
  | none => rw [q1] at h; cases h
  | some i =>
    rw [q1] at h
    obtain ⟨fa, fd, ps, hm, hk, hbi, hF⟩ := O.glob.fns f i q1
    match args, h with
    | a :: rest, h =>
      dsimp only at h
      by_cases hio : i.io = true
      · rw [if_pos hio] at h; cases h
      rw [if_neg hio] at h
      cases q3 : allSlots c (a :: rest) with
      | none => rw [q3] at h; cases h
      | some is =>
      rw [q3] at h
      dsimp only at h
      by_cases hn : is.length = i.n
      case neg => rw [if_neg hn] at h; cases h
      rw [if_pos hn] at h
      cases h
      obtain ⟨pa, pl⟩ := slots_ok O q3
      refine (pe_callS hF O.room gl hm hk hbi (passAt O.tk) pa hd ((pl a (by simp)).st _ _) (plains _ _ fun e he => pl e (by simp [he]))).weak fun σ H Q q => ?_
      simp only [evE] at q
      have := callK_run q
      rw [hn] at this
      rw [show i.io = false by simpa using hio]
      exact this
/-! calls that look at slots, and come to no list -/
mutual
theorem noL_dp {K : PySem.W.Frag} {G G3 : Hp} {p : Addr → Prop} (h3 : ∀ a o, G a = some o → ¬ p a → G3 a = some o) (hp : ∀ a, p a → ∀ xs, ¬ L2.Rd G a (.tup xs)) : ∀ {v : V} {d : PyData}, Dp K G v d → noL d = true → Dp K G3 v d
  | _, _, .non, _ => .non
  | _, _, .bl b, _ => .bl b
  | _, _, .int i, _ => .int i
  | _, _, .str z, _ => .str z
  | _, _, .lst _ _, h => by simp [noL] at h
  | _, _, .tup (a := a) h r, e => by
    refine .tup ?_ (noLs_dp h3 hp r (by simpa [noL] using e))
    rcases h with h | h
    · have na : ¬ p a := fun z => hp a z _ h
      rcases h with h | ⟨o, h⟩
      · exact .inl (.inl (h3 a _ h na))
      · exact .inl (.inr ⟨o, h3 a _ h na⟩)
    · exact .inr h
theorem noLs_dp {K : PySem.W.Frag} {G G3 : Hp} {p : Addr → Prop} (h3 : ∀ a o, G a = some o → ¬ p a → G3 a = some o) (hp : ∀ a, p a → ∀ xs, ¬ L2.Rd G a (.tup xs)) : ∀ {v : List V} {d : List PyData}, DpAll K G v d → noLs d = true → DpAll K G3 v d
  | _, _, .nil, _ => .nil
  | _, _, .cons h r, e => by
    simp only [noLs, Bool.and_eq_true] at e
    exact .cons (noL_dp h3 hp h e.1) (noLs_dp h3 hp r e.2)
end
theorem frz_more {G H : Hp} {av bv : List Addr} (s : ∀ a o, G a = some o → H a = some o) (h : ∀ a ∈ av, a ∈ bv) : ∀ a o, frz G H av a = some o → frz G H bv a = some o := fun a o e => by
  have hh : H a = some o := by
    by_cases z : a ∈ av
    · rw [frz_in z] at e; exact e
    · rw [frz_out z] at e; exact s a o e
  by_cases z : a ∈ bv
  · rw [frz_in z]; exact hh
  · rw [frz_out z]
    rw [frz_out (fun y => z (h a y))] at e
    exact e
theorem pend_bor {G H : Hp} {σ : L2.St} {Γ : Env} {as : List Addr} (r : RepE X.K G H σ Γ as) (g : Good G H as) : ∀ {vs : List V} {l : List (Nat ⊕ PyData)} {ds : List PyData}, Pend X.K G σ vs l → rslv Γ l = some ds →
    ∃ av, (∀ a ∈ av, a ∈ as ∧ ∃ xs, H a = some (.lst xs)) ∧ DpAll X.K (frz G H av) vs ds ∧ vs.length = l.length
  | _, _, _, .nil, e => by cases e; exact ⟨[], by simp, .nil, rfl⟩
  | _, .inr d :: l, _, .dat h pn, e => by
    unfold rslv at e
    cases q : rslv Γ l with
    | none => rw [q] at e; cases e
    | some ds =>
      rw [q] at e
      cases e
      obtain ⟨av, h1, h2, h3⟩ := pend_bor r g pn q
      exact ⟨av, h1, .cons (Dp_mono (frz_kG g fun a z => (h1 a z).1) h) h2, by simp [h3]⟩
  | v :: _, .inl i :: l, _, .pl h pn, e => by
    unfold rslv at e
    cases q0 : Γ[i]? with
    | none => rw [q0] at e; cases e
    | some s =>
      rw [q0] at e
      simp only at e
      cases q1 : s.pk with
      | none => rw [q1] at e; cases e
      | some d =>
        rw [q1] at e
        simp only at e
        cases q : rslv Γ l with
        | none => rw [q] at e; cases e
        | some ds =>
          rw [q] at e
          cases e
          obtain ⟨av, h1, h2, h3⟩ := pend_bor r g pn q
          obtain ⟨v', bv, hv, rs, hm⟩ := r.val q0 (pk_un q1)
          rw [h] at hv
          cases hv
          cases rs with
          | val hd => cases q1; exact ⟨av, h1, .cons (Dp_mono (frz_kG g fun a z => (h1 a z).1) hd) h2, by simp [h3]⟩
          | lst hh hd =>
            rename_i a xs _
            cases q1
            refine ⟨a :: av, fun b hb => ?_, .cons (.lst (.inl (.inl (by rw [frz_in (by simp)]; exact hh))) (DpAll_mono (frz_kG g fun b hb => ?_) hd)) (DpAll_mono (frz_more g.sub (by simp +contextual)) h2), by simp [h3]⟩
            · rcases List.mem_cons.mp hb with rfl | hb
              · exact ⟨hm _ (by simp), _, hh⟩
              · exact h1 b hb
            · rcases List.mem_cons.mp hb with rfl | hb
              · exact hm _ (by simp)
              · exact (h1 b hb).1
          | tup hh hd => cases q1
theorem ops_len : ∀ {os : List Opd} {Γ Γ' : Env} {l : List (Nat ⊕ PyData)}, opsF os Γ = .ok l Γ' → l.length = os.length
  | [], Γ, Γ', l, h => by cases h; rfl
  | .pl i :: os, Γ, Γ', l, h => by
    unfold opsF at h
    cases q0 : Γ[i]? with
    | none => rw [q0] at h; cases h
    | some s =>
      rw [q0] at h
      dsimp only at h
      cases q1 : s.pk with
      | none => rw [q1] at h; cases h
      | some d =>
        rw [q1] at h
        dsimp only at h
        cases q : opsF os Γ with
        | no => rw [q] at h; cases h
        | ex _ _ _ => rw [q] at h; cases h
        | ok l2 Γ2 =>
          rw [q] at h
          cases h
          simp [ops_len q]
  | .ex f :: os, Γ, Γ', l, h => by
    unfold opsF at h
    cases q0 : f Γ with
    | no => rw [q0] at h; cases h
    | ex _ _ _ => rw [q0] at h; cases h
    | ok s Γ1 =>
      rw [q0] at h
      simp only [Res.bind] at h
      cases q1 : s.fz with
      | none => rw [q1] at h; cases h
      | some d =>
        rw [q1] at h
        simp only at h
        cases q : opsF os Γ1 with
        | no => rw [q] at h; cases h
        | ex _ _ _ => rw [q] at h; cases h
        | ok l2 Γ2 =>
          rw [q] at h
          cases h
          simp [ops_len q]
theorem callB_run {f : Fn} {os : List Opd} {σ : L2.St} {H : Hp} {Q : VK} (h : TEv X.K ca W (callBF f os) σ H Q) : taOs X.K ca W os σ H fun vs H' => SpF X.K ca false os.length f vs H' Q (WE W σ) := by
  obtain ⟨Γ, G, as, r, g, h⟩ := h
  refine ops_run os r g ?_
  unfold callBF at h
  cases q : opsF os Γ with
  | no => rw [q] at h; exact h
  | ex c d Γ' => rw [q] at h; exact h
  | ok l Γ' =>
    rw [q] at h
    simp only [Res.bind] at h
    intro vs G' H' as' pn r' g' st
    cases q1 : rslv Γ' l with
    | none => rw [q1] at h; exact h.elim
    | some ds =>
      rw [q1] at h
      simp only at h
      obtain ⟨av, h1, h2, h3⟩ := pend_bor r' g' pn q1
      have gf : Good (frz G' H' av) H' [] := ⟨fun a o e => by
        by_cases z : a ∈ av
        · rw [frz_in z] at e; exact e
        · rw [frz_out z] at e; exact g'.sub a o e, by simp, .nil⟩
      -- what stays of what a call told, behind it
      have back : ∀ G2 H2 : Hp, Good G2 H2 [] → Stp [] (frz G' H' av) H' G2 H2 [] → ∃ G3, (∀ v d, Dp X.K G2 v d → noL d = true → Dp X.K G3 v d) ∧ RepE X.K G3 H2 σ Γ' as' ∧ Good G3 H2 as' ∧ Stp as G H G3 H2 as' := fun G2 H2 g2 p2 => by
        have hk : ∀ a o, H' a = some o → H2 a = some o := fun a o e => p2.kH a o e (by simp)
        have kG3 : ∀ a o, G' a = some o → (fun a => if a ∈ av then none else G2 a : Hp) a = some o := fun a o e => by
          have na : a ∉ av := fun z => by rw [(g'.own a (h1 a z).1).1] at e; cases e
          show (if a ∈ av then none else G2 a) = some o
          rw [if_neg na]
          exact p2.kG a o (by rw [frz_out na]; exact e)
        have nG3 : ∀ a, H' a ≠ none → G' a = none → (fun a => if a ∈ av then none else G2 a : Hp) a = none := fun a e e2 => by
          show (if a ∈ av then none else G2 a) = none
          by_cases na : a ∈ av
          · rw [if_pos na]
          · rw [if_neg na]
            exact p2.nG a e (by simp) (by rw [frz_out na]; exact e2)
        refine ⟨fun a => if a ∈ av then none else G2 a, fun v d hd hn => ?_, r'.car ⟨kG3, fun a _ o e => hk a o e⟩, ⟨fun a o e => ?_, fun a z => ?_, g'.nd⟩, ?_⟩
        · refine noL_dp (p := (· ∈ av)) (fun a o e na => ?_) (fun a z xs e => ?_) hd hn
          · show (if a ∈ av then none else G2 a) = some o
            rw [if_neg na]
            exact e
          · obtain ⟨_, ys, e2⟩ := h1 a z
            have e3 := hk a _ e2
            rcases e with e | ⟨o, e⟩
            · have := g2.sub a _ e; rw [e3] at this; cases this
            · have := g2.sub a _ e; rw [e3] at this; cases this
        · have e : (if a ∈ av then none else G2 a) = some o := e
          by_cases na : a ∈ av
          · rw [if_pos na] at e; cases e
          · rw [if_neg na] at e; exact g2.sub a o e
        · obtain ⟨z1, z2⟩ := g'.own a z
          exact ⟨nG3 a z2 z1, p2.there a z2⟩
        · exact st.trans ⟨fun a o e _ => hk a o e, kG3, fun a e _ e2 => nG3 a e e2, fun a z => .inl z, fun a e => p2.there a e⟩
      refine ⟨h3.trans (ops_len q), frz G' H' av, [], ds.map .val, repL_vals h2, gf, fun _ => rfl, ?_⟩
      cases q2 : f (ds.map .val) with
      | no => rw [q2] at h; exact h.elim
      | ok s b =>
        rw [q2] at h
        cases s with
        | un => exact h.elim
        | lst _ => exact h.elim
        | tup _ => exact h.elim
        | val d =>
          dsimp only at h
          by_cases hn : noL d = true
          case neg => rw [if_neg hn] at h; exact h.elim
          rw [if_pos hn] at h
          intro v G2 H2 av2 ab rs _ e0 g2 p2
          obtain rfl := e0 rfl
          cases rs with
          | val hd =>
            obtain ⟨G3, b1, b2, b3, b4⟩ := back G2 H2 g2 p2
            exact h v G3 H2 [] as' (.val (b1 v d hd hn)) b2 b3 b4
      | ex c d b =>
        rw [q2] at h
        dsimp only at h
        by_cases hn : noL d = true
        case neg => rw [if_neg hn] at h; exact h.elim
        rw [if_pos hn] at h
        intro cls dd G2 H2 ab _ e0 g2 p2 x
        obtain rfl := e0 rfl
        obtain ⟨G3, b1, b2, b3, b4⟩ := back G2 H2 g2 p2
        refine h cls dd G3 H2 as' b2 b3 b4 ⟨x.1, ?_⟩
        rcases x.2 with x2 | ⟨p, v, e1, e2, e3⟩
        · exact .inl x2
        · exact .inr ⟨p, v, e1, e2, b1 v d e3 hn⟩
theorem evOs_len (φ : Str → Fn) : ∀ es : List PyI.O, (evOs φ es).length = es.length
  | [] => rfl
  | e :: es => by simp [evOs, evOs_len φ es]
theorem s_callB (R : RcOk ca φ k r) (O : XOk ca φ k c X W) {f : Str} {args : List Expr} {fp pos : Pos} {ir : E} (h : cCallB r c f args = some ir) : PE X (.Call (.Name f fp) args [] pos) (TEv X.K ca W (evE φ ir)) := by
  unfold cCallB at h
  by_cases hg : glB c.sc f = true
  case neg => rw [if_neg hg] at h; cases h
  rw [if_pos hg] at h
  obtain ⟨gl, hd⟩ := gl_ok O hg
  cases q1 : c.T.fns.lookup f with
  | none => rw [q1] at h; cases h
  | some i =>
    rw [q1] at h
    obtain ⟨fa, fd, ps, hm, hk, hbi, hF⟩ := O.glob.fns f i q1
    match args, h with
    | a :: rest, h =>
      dsimp only at h
      by_cases hio : i.io = true
      · rw [if_pos hio] at h; cases h
      rw [if_neg hio] at h
      cases q3 : cOs r c (a :: rest) with
      | none => rw [q3] at h; cases h
      | some os =>
      rw [q3] at h
      dsimp only at h
      by_cases hn : os.length = i.n
      case neg => rw [if_neg hn] at h; cases h
      rw [if_pos hn] at h
      cases h
      obtain ⟨pa, pl⟩ := os_ok R O q3
      refine (pe_callS hF O.room gl hm hk hbi (passAt O.tk) pa hd ((pl a (by simp)).st _ _) (plains _ _ fun e he => pl e (by simp [he]))).weak fun σ H Q q => ?_
      simp only [evE] at q
      have := callB_run q
      rw [evOs_len, hn] at this
      rw [show i.io = false by simpa using hio]
      exact this
end
end PyI

namespace PyI
open PySem PySem.Spec PyProof.Rows L2
/-! ## methods -/
theorem ext_any (l : Addr) (items : Array Value) (n : Nat) (b : Addr) (items2 : Array Value) (n2 : Nat) (sl : Array (Option Value)) (hc0 : ¬(!items.isEmpty && Builtin.List.listTooLong (items.size + items2.size)) = true) (hc1 : items.size ≤ sizeLine) (hs2 : items.size + items2.size ≤ sizeLine + 1) :
    Meets (Builtin.«list.extend» ⟨[.ref l, .ref b], []⟩) (fun _ R s => s.heap.get? l = some { cls := .type "list", dict := none, data := .seq items n, slots := #[] } ∧ s.heap.get? b = some { cls := .type "list", dict := none, data := .seq items2 n2, slots := sl } ∧ R (.ok (.ret Value.none)) { s with heap := s.heap.update l (Obj.mapSeq fun x => x ++ items2), toks := s.toks }) :=
  .of_wp fun prog w A R s h => by
    obtain ⟨hp, g, d, tk, os⟩ := s; obtain ⟨hl, hb, h⟩ := h; have f1 := AutoSeq1.idx_int; have f2 := AutoSeq1.sub_tuple_tuple; have f3 := AutoSeq1.sub_list_list; have f4 := AutoSeq1.sub_tuple_list; have f5 := AutoSeq1.sub_list_tuple;
    have hz' : (items ++ items2).size ≤ sizeLine + 1 := by rw [Array.size_append]; exact hs2
    wp_walk using (wpAny_updateSeq hl rfl (hz := hc1) (_hz' := hz')), wpAny_loadPart' hl, wpAny_loadPart' hb; exact ⟨_, rfl, h⟩
theorem dpA_append {K : PySem.W.Frag} {G : Hp} : ∀ {vs ws : List V} {ds es : List PyData}, DpAll K G vs ds → DpAll K G ws es → DpAll K G (vs ++ ws) (ds ++ es) := DpAll_append
theorem dpA_dropLast {K : PySem.W.Frag} {G : Hp} : ∀ {vs : List V} {ds : List PyData}, DpAll K G vs ds → DpAll K G vs.dropLast ds.dropLast
  | _, _, .nil => .nil
  | _, _, .cons h .nil => .nil
  | _, _, .cons h (.cons h2 r) => .cons h (dpA_dropLast (.cons h2 r))
theorem dpA_last {K : PySem.W.Frag} {G : Hp} : ∀ {vs : List V} {ds : List PyData} {d : PyData}, DpAll K G vs ds → ds.getLast? = some d → ∃ v, vs[vs.length - 1]? = some v ∧ Dp K G v d
  | _, _, _, .nil, h => by cases h
  | _, _, _, .cons h .nil, e => by cases e; exact ⟨_, rfl, h⟩
  | _, _, _, .cons (v := v) h (.cons (v := v2) (vs := vs) h2 r), e => by
    obtain ⟨w, h1, h3⟩ := dpA_last (.cons h2 r) (by simpa using e)
    exact ⟨w, by simpa using h1, h3⟩
section
variable {X : Cx}
theorem rl_append : MtR X "list.append" (MutR X.K mAppend) := by
  intro pins s σ H x vs v us Q I rx rv h
  obtain ⟨l, xs, G, dxs, ds, d, ys, rfl, hH, sub, da, db, e, q⟩ := h
  unfold mAppend at e
  split at e
  · rename_i d1
    split at e
    · rename_i hz
      cases e
      cases db with
      | cons h1 r1 =>
        cases r1
        exact mt_append pins s σ H _ _ v us Q I rx rv ⟨l, xs, _, rfl, rfl, hH, by rw [DpAll_len da]; exact hz, q _ _ .non (dpA_append da (.cons h1 .nil))⟩
    · cases e
  · cases e
theorem rl_clear : MtR X "list.clear" (MutR X.K mClear) := by
  intro pins s σ H x vs v us Q I rx rv h
  obtain ⟨l, xs, G, dxs, ds, d, ys, rfl, hH, sub, da, db, e, q⟩ := h
  unfold mClear at e
  split at e
  · cases e
    cases db
    exact mt_clear pins s σ H _ _ v us Q I rx rv ⟨l, xs, rfl, rfl, hH, q _ _ .non .nil⟩
  · cases e
theorem rl_pop : MtR X "list.pop" (MutR X.K mPop) := by
  intro pins s σ H x vs v us Q I rx rv h
  obtain ⟨l, xs, G, dxs, ds, d, ys, rfl, hH, sub, da, db, e, q⟩ := h
  unfold mPop at e
  split at e
  · cases hl : dxs.getLast? with
    | none => rw [hl] at e; cases e
    | some dl =>
      rw [hl] at e
      cases e
      cases db
      obtain ⟨y, h1, h2⟩ := dpA_last da hl
      exact mt_pop pins s σ H _ _ v us Q I rx rv ⟨l, xs, y, rfl, rfl, hH, h1, q _ _ h2 (dpA_dropLast da)⟩
  · cases e
theorem rl_extend : MtR X "list.extend" (MutR X.K mExtend) := by
  intro pins s σ H x vs v us Q I rx rv h
  obtain ⟨l, xs, G, dxs, ds, d, ys, rfl, hH, sub, da, db, e, q⟩ := h
  unfold mExtend at e
  split at e
  · rename_i zs
    split at e
    · rename_i hz
      cases e
      cases db with
      | cons h1 r1 =>
        cases r1
        obtain ⟨b, ws, rfl, k1, k2⟩ := dp_lst h1
        cases rx
        obtain ⟨u, rfl, ru⟩ := rv.one
        cases ru
        obtain ⟨z, its, n, r, hl, e⟩ := I.lstM hH
        obtain ⟨its2, r2, pl, z2⟩ := I.list (seqL_mono sub k1)
        obtain ⟨o2, n2, e2, c1, c2, c3⟩ := pl
        obtain ⟨oc, od, dt, sl⟩ := o2
        simp only at c1 c2 c3
        subst c1 c2 c3
        have l1 := DpAll_len da
        have l2 := DpAll_len k2
        have hl2 := r2.length
        have hsz : its.toArray.size + its2.toArray.size ≤ sizeLine := by rw [List.size_toArray, List.size_toArray]; omega
        have hlong : ¬ (!its.toArray.isEmpty && Builtin.List.listTooLong (its.toArray.size + its2.toArray.size)) = true := by
          rw [notLongL hsz, Bool.and_false]
          exact Bool.false_ne_true
        refine call_meets F.slot_list_extend ⟨_, e, rfl⟩ F.entry_list_extend (F.args_list_extend_2 _ _)
          (ext_any l its.toArray n b its2.toArray n2 sl hlong (by rw [List.size_toArray]; omega) (by omega)) ⟨e, e2, ?_⟩
        refine ⟨.non, _, I.lset (its' := its ++ its2) hH e (by simp) (r.append r2) ?_, rfl, q _ _ .non (dpA_append da k2)⟩
        rw [List.length_append]
        omega
    · cases e
  · cases e
end
section
variable {K : PySem.W.Frag} {ca : Str → Addr} {W : WX}
def kT : MK → String
  | .str => "str"
  | .list => "list"
theorem kind_ty {k : MK} {d : PyData} {v : V} {G H : Hp} (h : kindOk k d = true) (s : Sub G H) (r : RepP K G H v d) : tyV K (kT k) v H := by
  cases k with
  | str =>
    cases d <;> first | (cases h; done) | skip
    rw [rp_str r]; rfl
  | list =>
    cases d <;> first | (cases h; done) | skip
    obtain ⟨a, vs, rfl, h1, h2⟩ := rp_lst s r
    exact .inl ⟨rfl, vs, h1⟩
theorem pk_rep {s : Sl} {d : PyData} {v : V} {G H : Hp} {av : List Addr} (q1 : s.pk = some d) (rs : RepS K G H v s av) : RepP K G H v d := by
  cases rs with
  | val hd => cases q1; exact .inl hd
  | lst hh hd => cases q1; exact .inr ⟨_, _, _, rfl, rfl, hh, hd⟩
  | tup hh hd => cases q1
theorem meth_run {p : List PyData → Option Sl} {k : MK} {o : Opd} {fs : List F} {σ : L2.St} {H : Hp} {Q : VK} (h : TEv K ca W (methF k p o fs) σ H Q) :
    tBM K (kT k) (fun x xs H Q => PrimR K p (x :: xs) H Q) (tOpd K ca W o) (taOs K ca W (fs.map .ex)) σ H Q := by
  obtain ⟨Γ, G, as, r, g, h⟩ := h
  unfold methF at h
  cases o with
  | pl i =>
    dsimp only at h
    cases q0 : Γ[i]? with
    | none => rw [q0] at h; exact h.elim
    | some s =>
    rw [q0] at h
    dsimp only at h
    cases q1 : s.pk with
    | none => rw [q1] at h; exact h.elim
    | some d =>
    rw [q1] at h
    dsimp only at h
    by_cases ko : kindOk k d = true
    case neg => rw [if_neg ko] at h; exact h.elim
    rw [if_pos ko] at h
    obtain ⟨v, av, hv, rs, _⟩ := r.val q0 (pk_un q1)
    refine ⟨v, hv, kind_ty ko g.sub (pk_rep q1 rs), ?_⟩
    refine ops_run _ r g ?_
    cases q : opsF (fs.map .ex) Γ with
    | no => rw [q] at h; exact h
    | ex c d Γ' => rw [q] at h; exact h
    | ok l Γ' =>
      rw [q] at h
      simp only [Res.bind] at h
      intro vs G' H' as' pn r' g' st
      cases q1 : rslv Γ' (.inl i :: l) with
      | none => rw [q1] at h; exact h.elim
      | some ds =>
        rw [q1] at h
        simp only at h
        cases q2 : p ds with
        | none => rw [q2] at h; exact h.elim
        | some s =>
          rw [q2] at h
          refine ⟨G', ds, s, g'.sub, pend_rslv r' (.pl hv pn) q1, q2, fun v G2 H2 av rs g2 p2 => ?_⟩
          exact h v G2 H2 av as' rs (r'.car p2.car0) (g'.join g2 p2) (st.join p2)
  | ex f =>
    refine ⟨Γ, G, as, r, g, ?_⟩
    dsimp only at h
    cases qf : f Γ with
    | no => rw [qf] at h; exact h
    | ex c d Γ' => rw [qf] at h; exact h
    | ok s Γ1 =>
      rw [qf] at h
      simp only [Res.bind] at h
      intro v G1 H1 av as1 rs r1 g1 p1
      cases q1 : s.fz with
      | none => rw [q1] at h; exact h.elim
      | some d =>
      rw [q1] at h
      dsimp only at h
      by_cases ko : kindOk k d = true
      case neg => rw [if_neg ko] at h; exact h.elim
      rw [if_pos ko] at h
      have dv : Dp K (frz G1 H1 av) v d := rs.frz q1 (fun _ z => z) (frz_kG g1 (by simp +contextual))
      have rr := r1.frz g1
      have gg := g1.frz
      have pp := p1.frz g1
      refine ⟨kind_ty ko gg.sub (.inl dv), ?_⟩
      refine ops_run _ rr gg ?_
      cases q : opsF (fs.map .ex) Γ1 with
      | no => rw [q] at h; exact h
      | ex c d Γ' => rw [q] at h; exact h.step pp
      | ok l Γ' =>
        rw [q] at h
        simp only [Res.bind] at h
        intro vs G' H' as' pn r' g' st
        cases q1 : rslv Γ' (.inr d :: l) with
        | none => rw [q1] at h; exact h.elim
        | some ds =>
          rw [q1] at h
          simp only at h
          cases q2 : p ds with
          | none => rw [q2] at h; exact h.elim
          | some s =>
            rw [q2] at h
            refine ⟨G', ds, s, g'.sub, pend_rslv r' (.dat (Dp_mono st.kG dv) pn) q1, q2, fun v G2 H2 av rs g2 p2 => ?_⟩
            exact h v G2 H2 av as' rs (r'.car p2.car0) (g'.join g2 p2) ((pp.trans st).join p2)
end
end PyI

namespace PyI
open PySem PySem.Spec PyProof.Rows L2
section
variable {K : PySem.W.Frag} {ca : Str → Addr} {W : WX}
/-- a primitive over expressions alone -/
theorem prim_ex {p : List PyData → Option Sl} {fs : List F} {σ : L2.St} {H : Hp} {Q : VK} (h : TEv K ca W (primF p (fs.map .ex)) σ H Q) : taOs K ca W (fs.map .ex) σ H fun vs H' => ∃ G ds s, Sub G H' ∧ DpAll K G vs ds ∧ p ds = some s ∧ PEnd K G H' s Q := by
  obtain ⟨Γ, G, as, r, g, h⟩ := h
  refine ops_run _ r g ?_
  unfold primF at h
  cases q : opsF (fs.map .ex) Γ with
  | no => rw [q] at h; exact h
  | ex c d Γ' => rw [q] at h; exact h
  | ok l Γ' =>
    rw [q] at h
    simp only [Res.bind] at h
    intro vs G' H' as' pn r' g' st
    cases q1 : rslv Γ' l with
    | none => rw [q1] at h; exact h.elim
    | some ds =>
      rw [q1] at h
      simp only at h
      cases q2 : p ds with
      | none => rw [q2] at h; exact h.elim
      | some s =>
        rw [q2] at h
        refine ⟨G', ds, s, g'.sub, (pend_ex pn q1 ⟨Γ', q⟩).1, q2, fun v G2 H2 av rs g2 p2 => ?_⟩
        exact h v G2 H2 av as' rs (r'.car p2.car0) (g'.join g2 p2) (st.join p2)
end
section
variable {ca : Str → Addr} {φ : Str → Fn} {k : Nat} {c : CC} {X : Cx} {W : WX} {r : Rc}
theorem taOs_mono : ∀ {os : List Opd} {σ : L2.St} {H : Hp} {Q Q' : List V → Hp → Prop}, taOs X.K ca W os σ H Q → (∀ vs H', Q vs H' → Q' vs H') → taOs X.K ca W os σ H Q'
  | [], _, _, _, _, h, w => w _ _ h
  | o :: os, _, _, _, _, h, w => TEo h fun v H1 q => taOs_mono q fun vs H2 q => w _ _ q
theorem s_tup (R : RcOk ca φ k r) (O : XOk ca φ k c X W) {es : List Expr} {irs : List E} {j : Nat} {pos : Pos} (h : cEs r c es = some irs) : PE X (.Tuple es j pos) (TEv X.K ca W (evE φ (.prim .tup (irs.map .ex)))) := by
  obtain ⟨pa, _⟩ := es_ok R O h
  refine (pe_tup pa).weak fun σ H Q q => ?_
  simp only [evE, evOs_ex] at q
  refine taOs_mono (prim_ex q) fun vs H1 ⟨G, ds, s, sub, da, e, q⟩ => ?_
  have e : (if lineB ds.length = true then _ else _) = some s := e
  by_cases hz : lineB ds.length = true
  · rw [if_pos hz] at e
    cases e
    exact ⟨by rw [DpAll_len da]; exact of_decide_eq_true hz, fun p hp => pe_newT sub q da hp⟩
  · rw [if_neg hz] at e; cases e
theorem s_lst (R : RcOk ca φ k r) (O : XOk ca φ k c X W) {es : List Expr} {irs : List E} {pos : Pos} (h : cEs r c es = some irs) : PE X (.List es pos) (TEv X.K ca W (evE φ (.prim .lst (irs.map .ex)))) := by
  obtain ⟨pa, _⟩ := es_ok R O h
  refine (pe_lst pa).weak fun σ H Q q => ?_
  simp only [evE, evOs_ex] at q
  refine taOs_mono (prim_ex q) fun vs H1 ⟨G, ds, s, sub, da, e, q⟩ => ?_
  have e : (if lineB ds.length = true then _ else _) = some s := e
  by_cases hz : lineB ds.length = true
  · rw [if_pos hz] at e
    cases e
    exact ⟨by rw [DpAll_len da]; exact of_decide_eq_true hz, fun p hp => pe_newL sub q da hp⟩
  · rw [if_neg hz] at e; cases e
theorem base_ok {o : Expr} (m : Str) (env : PySem.Env) (h : superLike o = false) : attributeBase o m env (eval o env) = eval o env := by
  unfold attributeBase
  split
  · cases h
  · rfl
theorem few_ok (p : Pl a) {env : PySem.Env} {cpos : Pos} : ((backTo cpos (starEach [a] env)).all (fun x => !x.1) && (backToKw cpos (keywordEach [] env)).all (fun x => x.1.isSome)
      && decide ([a].length + ([] : List Keyword).length + (if ([] : List Keyword).isEmpty then 0 else 1) < 30)) = true := by
  rw [p.st]
  rfl
theorem s_mut (R : RcOk ca φ k r) (O : XOk ca φ k c X W) {x : Str} {xp ap cp : Pos} {m : Str} {a : Expr} {i : Nat} {ea : E} {mm : Mm} {id : String} (q1 : slotOf c x = some i) (q2 : r c false a = some ea) (hl : (ap.endLine == cp.line) = true) (sl : Slot "list" m id) (ty : typeOf (.builtin id) = pure (.type "method_descriptor")) (hm : MtR X id (MutR X.K (mden mm))) :
    PE X (.Call (.Attribute (.Name x xp) m ap) [a] [] cp) (TEv X.K ca W (evE φ (.mut mm i [ea]))) := by
  obtain ⟨pa, sa⟩ := R c X W false a ea O q2
  refine (pe_bm PySem.F.plainAttrs_list sl ty hm (slot_ok O q1) (pa_cons sa pa_nil (pa.st _ _)) rfl (few_ok pa) hl (pa.st _ _) rfl).weak fun σ H Q q => ?_
  have := mut_run (by simpa only [evE, evEs] using q)
  exact this
theorem s_mut0 (O : XOk ca φ k c X W) {x : Str} {xp ap cp : Pos} {m : Str} {i : Nat} {mm : Mm} {id : String} (q1 : slotOf c x = some i) (hl : (ap.endLine == cp.line) = true) (sl : Slot "list" m id) (ty : typeOf (.builtin id) = pure (.type "method_descriptor")) (hm : MtR X id (MutR X.K (mden mm))) :
    PE X (.Call (.Attribute (.Name x xp) m ap) [] [] cp) (TEv X.K ca W (evE φ (.mut mm i []))) := by
  refine (pe_bm0 PySem.F.plainAttrs_list sl ty hm (slot_ok O q1) rfl hl).weak fun σ H Q q => ?_
  have := mut_run (by simpa only [evE, evEs] using q)
  exact this
theorem s_meth1 (R : RcOk ca φ k r) (O : XOk ca φ k c X W) {o a : Expr} {ap cp : Pos} {m : Str} {oo : PyI.O} {ea : E} {p : Prm} {id : String} (q1 : cO r c o = some oo) (q2 : r c false a = some ea) (hs : superLike o = false) (hl : (ap.endLine == cp.line) = true) (pl : PlainAttrs (kT (mkOf p))) (sl : Slot (kT (mkOf p)) m id) (ty : typeOf (.builtin id) = pure (.type "method_descriptor"))
    (hm : MtR X id (fun x xs H Q => PrimR X.K (den p) (x :: xs) H Q)) : PE X (.Call (.Attribute o m ap) [a] [] cp) (TEv X.K ca W (evE φ (.meth p oo [ea]))) := by
  obtain ⟨pa, sa⟩ := R c X W false a ea O q2
  obtain ⟨ho, _⟩ := o_ok R O q1
  refine (pe_bm pl sl ty hm ho (pa_cons sa pa_nil (pa.st _ _)) (base_ok _ _ hs) (few_ok pa) hl (pa.st _ _) rfl).weak fun σ H Q q => ?_
  have := meth_run (by simpa only [evE, evEs] using q)
  exact this
theorem s_m1 (R : RcOk ca φ k r) (O : XOk ca φ k c X W) {o a : Expr} {ap cp : Pos} {m : Str} {ir : E} (hs : superLike o = false) (hl : (ap.endLine == cp.line) = true) (h : cMeth.cMeth1 r c o m a = some ir) : PE X (.Call (.Attribute o m ap) [a] [] cp) (TEv X.K ca W (evE φ ir)) := by
  unfold cMeth.cMeth1 at h
  cases q1 : cO r c o with
  | none => rw [q1] at h; cases h
  | some oo =>
  rw [q1] at h
  cases q2 : r c false a with
  | none => rw [q2] at h; cases h
  | some ea =>
  rw [q2] at h
  dsimp only at h
  by_cases e1 : m = "join"
  · rw [if_pos e1] at h
    subst e1
    cases h
    exact s_meth1 R O q1 q2 hs hl PySem.F.plainAttrs_str PySem.F.slot_str_join PySem.F.type_str_join rl_join
  · rw [if_neg e1] at h
    by_cases e2 : m = "split"
    · rw [if_pos e2] at h
      subst e2
      cases h
      exact s_meth1 R O q1 q2 hs hl PySem.F.plainAttrs_str PySem.F.slot_str_split PySem.F.type_str_split rl_split
    · rw [if_neg e2] at h
      by_cases e3 : m = "index"
      · rw [if_pos e3] at h
        subst e3
        cases h
        exact s_meth1 R O q1 q2 hs hl PySem.F.plainAttrs_list PySem.F.slot_list_index PySem.F.type_list_index rl_index
      · rw [if_neg e3] at h; cases h
theorem s_meth (R : RcOk ca φ k r) (O : XOk ca φ k c X W) {o : Expr} {args : List Expr} {ap cp : Pos} {m : Str} {ir : E} (hs : superLike o = false) (hl : (ap.endLine == cp.line) = true) (h : cMeth r c o m args = some ir) : PE X (.Call (.Attribute o m ap) args [] cp) (TEv X.K ca W (evE φ ir)) := by
  unfold cMeth at h
  split at h
  · rename_i x xp a
    by_cases e1 : m = "append"
    · rw [if_pos e1] at h
      subst e1
      cases q1 : slotOf c x with
      | none => rw [q1] at h; cases h
      | some i =>
      rw [q1] at h
      cases q2 : r c false a with
      | none => rw [q2] at h; cases h
      | some ea =>
      rw [q2] at h
      cases h
      exact s_mut R O q1 q2 hl PySem.F.slot_list_append PySem.F.type_list_append rl_append
    · rw [if_neg e1] at h
      by_cases e2 : m = "extend"
      · rw [if_pos e2] at h
        subst e2
        cases q1 : slotOf c x with
        | none => rw [q1] at h; cases h
        | some i =>
        rw [q1] at h
        cases q2 : r c false a with
        | none => rw [q2] at h; cases h
        | some ea =>
        rw [q2] at h
        cases h
        exact s_mut R O q1 q2 hl PySem.F.slot_list_extend PySem.F.type_list_extend rl_extend
      · rw [if_neg e2] at h
        exact s_m1 R O hs hl h
  · rename_i x xp
    by_cases e1 : m = "pop"
    · rw [if_pos e1] at h
      subst e1
      cases q1 : slotOf c x with
      | none => rw [q1] at h; cases h
      | some i =>
      rw [q1] at h
      cases h
      exact s_mut0 O q1 hl PySem.F.slot_list_pop PySem.F.type_list_pop rl_pop
    · rw [if_neg e1] at h
      by_cases e2 : m = "clear"
      · rw [if_pos e2] at h
        subst e2
        cases q1 : slotOf c x with
        | none => rw [q1] at h; cases h
        | some i =>
        rw [q1] at h
        cases h
        exact s_mut0 O q1 hl PySem.F.slot_list_clear PySem.F.type_list_clear rl_clear
      · rw [if_neg e2] at h; cases h
  · exact s_m1 R O hs hl h
  · cases h
end
end PyI

namespace PyI
open PySem PySem.Spec PyProof.Rows L2
section
variable {ca : Str → Addr} {φ : Str → Fn} {k : Nat} {c : CC} {X : Cx} {W : WX} {r : Rc}
theorem snd_of {e : Expr} {ir : E} {t : Bool} (pl : Pl e) (h : PE X e (TEv X.K ca W (evE φ ir))) (he : ∀ whole, isTrue e X.env whole = (do let v ← whole; standAt e.pos; holding [v] (truthy v)) := by intro _; rfl) : Snd ca φ X W t e ir := by
  cases t with
  | false => exact ⟨pl, h⟩
  | true => exact ⟨pl, TTv_of h he⟩
theorem cmp_ok : ∀ n : Nat, RcOk ca φ k (cmp n)
  | 0 => fun c X W t e ir O h => by cases h
  | n + 1 => fun c X W t e ir O h => by
    have R : RcOk ca φ k (cmp n) := cmp_ok n
    unfold cmp at h
    split at h
    · exact snd_of (pl_of _ (by simp) (by simp)) (s_const h)
    · exact snd_of (pl_of _ (by simp) (by simp)) (s_name O h)
    · rename_i es j p
      cases q : cEs (cmp n) c es with
      | none => rw [q] at h; cases h
      | some l => rw [q] at h; cases h; exact snd_of (pl_of _ (by simp) (by simp)) (s_tup R O q)
    · rename_i es p
      cases q : cEs (cmp n) c es with
      | none => rw [q] at h; cases h
      | some l => rw [q] at h; cases h; exact snd_of (pl_of _ (by simp) (by simp)) (s_lst R O q)
    · rename_i a op b p
      cases q1 : binPrm op with
      | none => rw [q1] at h; cases h
      | some pr =>
      rw [q1] at h
      cases q2 : cO (cmp n) c a with
      | none => rw [q2] at h; cases h
      | some oa =>
      rw [q2] at h
      cases q3 : cO (cmp n) c b with
      | none => rw [q3] at h; cases h
      | some ob =>
      rw [q3] at h
      cases h
      exact snd_of (pl_of _ (by simp) (by simp)) (s_bin q1 (o_ok R O q2).1 (o_ok R O q3).1)
    · rename_i a p
      cases q2 : cO (cmp n) c a with
      | none => rw [q2] at h; cases h
      | some oa =>
      rw [q2] at h
      cases h
      exact snd_of (pl_of _ (by simp) (by simp)) (prim_te (pe_un rl_neg (o_ok R O q2).1) fun σ H Q q => q)
    · rename_i a p
      cases q : cmp n c t a with
      | none => rw [q] at h; cases h
      | some ia =>
        rw [q] at h
        cases h
        have s := R c X W t a ia O q
        refine ⟨pl_of _ (by simp) (by simp), ?_⟩
        cases t with
        | false => simp only [evE]; exact xe_not s.2
        | true => simp only [evE]; exact xt_not s.2
    · rename_i op vs p
      refine ⟨pl_of _ (by simp) (by simp), ?_⟩
      cases t with
      | false => exact s_boolV R O h
      | true => exact (s_boolT R O h).pt
    · rename_i a b d p
      by_cases ht : t = true
      · rw [if_pos ht] at h; cases h
      · rw [if_neg ht] at h
        have ht : t = false := by simpa using ht
        subst ht
        cases q1 : cmp n c true a with
        | none => rw [q1] at h; cases h
        | some ia =>
        rw [q1] at h
        cases q2 : cmp n c false b with
        | none => rw [q2] at h; cases h
        | some ib =>
        rw [q2] at h
        cases q3 : cmp n c false d with
        | none => rw [q3] at h; cases h
        | some id =>
        rw [q3] at h
        cases h
        refine ⟨pl_of _ (by simp) (by simp), ?_⟩
        simp only [evE]
        exact xe_ite (R c X W true _ _ O q1).2 (R c X W false _ _ O q2).2 (R c X W false _ _ O q3).2
    · cases t with
      | false => exact (s_cmp R O h).1
      | true => exact (s_cmp R O h).2
    · cases t with
      | false => exact (s_chain R O h).1
      | true => exact (s_chain R O h).2
    · exact snd_of (pl_of _ (by simp) (by simp)) (s_sub R O h)
    · exact snd_of (pl_of _ (by simp) (by simp)) (s_comp R O h)
    · rename_i f fp args p
      by_cases ck : c.T.keep.contains p.line = true
      · rw [if_pos ck] at h
        exact snd_of (pl_of _ (by simp) (by simp)) (s_callK O h)
      · rw [if_neg ck] at h
        by_cases cb : (c.T.bor.contains p.line && (c.T.fns.lookup f).isSome) = true
        · rw [if_pos cb] at h
          exact snd_of (pl_of _ (by simp) (by simp)) (s_callB R O h)
        · rw [if_neg cb] at h
          exact snd_of (pl_of _ (by simp) (by simp)) (s_call R O h)
    · rename_i o m ap args cp
      by_cases hc : (ap.endLine == cp.line && !superLike o) = true
      · rw [if_pos hc] at h
        simp only [Bool.and_eq_true, Bool.not_eq_true'] at hc
        exact snd_of (pl_of _ (by simp) (by simp)) (s_meth R O hc.2 hc.1 h)
      · rw [if_neg hc] at h; cases h
    · cases h
end
end PyI

namespace PyI
open PySem PySem.Spec PyProof.Rows L2
/-! ## a pair whose second part is a tuple, owned, handed back -/
def mvs : List (Nat ⊕ PyData) → Env → Option (List Sl × Env)
  | [], Γ => some ([], Γ)
  | .inr d :: l, Γ => (mvs l Γ).map fun p => (.val d :: p.1, p.2)
  | .inl i :: l, Γ => match Γ[i]? with
    | some .un => none
    | some s => (mvs l (Γ.set i .un)).map fun p => (s :: p.1, p.2)
    | none => none
def retK (l : List (Nat ⊕ PyData)) (Γ' : Env) : Fl := if lineB l.length = true then (match mvs l Γ' with
  | some (s0 :: ss, Γ2) => .ret (.tup [s0, .tup ss]) Γ2
  | _ => .no) else .no
def retT (a : Opd) (ys : List Opd) : SF := fun Γ => (opsF (a :: ys) Γ).fl retK
section
variable {K : PySem.W.Frag} {ca : Str → Addr} {W : WX} {io : Bool}
theorem RepE.mv {G H : Hp} : ∀ {σ : L2.St} {Γ : Env} {as : List Addr} {i : Nat} {s : Sl}, RepE K G H σ Γ as → Γ[i]? = some s → s ≠ .un → ∃ v av as', σ[i]? = some (some v) ∧ RepS K G H v s av ∧ RepE K G H σ (Γ.set i .un) as' ∧ as.Perm (av ++ as')
  | _, _, _, i, _, .nil, h, _ => by simp at h
  | _, _, _, 0, _, .un r, h, n => by cases h; exact absurd rfl n
  | _, _, _, 0, _, .cons (v := v) (a := a) (as := as) h0 r, h, n => by cases h; exact ⟨v, a, as, rfl, h0, .un r, .refl _⟩
  | _, _, _, i + 1, _, .un r, h, n => by
    obtain ⟨v, av, as', h1, h2, h3, h4⟩ := r.mv (i := i) (by simpa using h) n
    exact ⟨v, av, as', by simpa using h1, h2, .un h3, h4⟩
  | _, _, _, i + 1, _, .cons (a := a) h0 r, h, n => by
    obtain ⟨v, av, as', h1, h2, h3, h4⟩ := r.mv (i := i) (by simpa using h) n
    refine ⟨v, av, a ++ as', by simpa using h1, h2, .cons h0 h3, ?_⟩
    refine (List.Perm.append_left a h4).trans ?_
    rw [← List.append_assoc, ← List.append_assoc]
    exact List.Perm.append_right as' List.perm_append_comm
theorem mvs_run {G H : Hp} {σ : L2.St} : ∀ {l : List (Nat ⊕ PyData)} {Γ Γ2 : Env} {vs : List V} {ss : List Sl} {as : List Addr}, Pend K G σ vs l → RepE K G H σ Γ as → mvs l Γ = some (ss, Γ2) → ∃ av as2, RepL K G H vs ss av ∧ RepE K G H σ Γ2 as2 ∧ as.Perm (av ++ as2)
  | [], Γ, Γ2, vs, ss, as, pn, r, h => by
    cases pn
    cases h
    exact ⟨[], as, .nil, r, .refl _⟩
  | .inr d :: l, Γ, Γ2, vs, ss, as, pn, r, h => by
    cases pn with
    | dat hd pn =>
      unfold mvs at h
      cases q : mvs l Γ with
      | none => rw [q] at h; cases h
      | some p =>
        rw [q] at h
        cases h
        obtain ⟨av, as2, h1, h2, h3⟩ := mvs_run pn r q
        exact ⟨[] ++ av, as2, .cons (.val hd) h1, h2, h3⟩
  | .inl i :: l, Γ, Γ2, vs, ss, as, pn, r, h => by
    cases pn with
    | pl hv pn =>
      unfold mvs at h
      cases q0 : Γ[i]? with
      | none => rw [q0] at h; cases h
      | some s =>
        rw [q0] at h
        have go : s ≠ .un → (mvs l (Γ.set i .un)).map (fun p => (s :: p.1, p.2)) = some (ss, Γ2) → ∃ av as2, RepL K G H (_ :: _) ss av ∧ RepE K G H σ Γ2 as2 ∧ as.Perm (av ++ as2) := fun n h => by
          cases q : mvs l (Γ.set i .un) with
          | none => rw [q] at h; cases h
          | some p =>
            rw [q] at h
            cases h
            obtain ⟨v, av0, as', k1, k2, k3, k4⟩ := r.mv q0 n
            rw [hv] at k1
            cases k1
            obtain ⟨av, as2, h1, h2, h3⟩ := mvs_run pn k3 q
            exact ⟨av0 ++ av, as2, .cons k2 h1, h2, by rw [List.append_assoc]; exact k4.trans (List.Perm.append_left _ h3)⟩
        cases s with
        | un => cases h
        | val d => exact go (fun z => nomatch z) h
        | lst xs => exact go (fun z => nomatch z) h
        | tup xs => exact go (fun z => nomatch z) h
theorem retT_run {a : Opd} {ys : List Opd} {D : Ends} {σ : L2.St} {H : Hp} (h : TSv K ca W io (retT a ys) D σ H) : taOs K ca W (a :: ys) σ H fun vs H' => ∃ x xs, vs = x :: xs ∧ xs.length ≤ sizeLine ∧ ∀ p, H' p = none → ∀ q, upd H' p (.tup xs) q = none → D.rt (.ref q) (upd (upd H' p (.tup xs)) q (.tup [x, .ref p])) := by
  refine ops_fl h fun l Γ' vs G' H' as' _ pn r g post => ?_
  unfold retK at post
  by_cases lb : lineB l.length = true
  case neg => rw [if_neg lb] at post; exact post.elim
  rw [if_pos lb] at post
  cases q : mvs l Γ' with
  | none => rw [q] at post; exact post.elim
  | some pr =>
    obtain ⟨ss, Γ2⟩ := pr
    rw [q] at post
    cases ss with
    | nil => exact post.elim
    | cons s0 ss =>
      obtain ⟨av, as2, h1, h2, h3⟩ := mvs_run pn r q
      cases h1 with
      | @cons x _ a0 xs _ a1 k1 k2 =>
        have hlen : xs.length + 1 = l.length := by
          have : ∀ {vs : List V} {l : List (Nat ⊕ PyData)}, Pend K G' σ vs l → vs.length = l.length := fun {vs l} pn => by
            induction pn with
            | nil => rfl
            | pl _ _ ih => simp [ih]
            | dat _ _ ih => simp [ih]
          exact this pn
        refine ⟨x, xs, rfl, ?_, fun p hp q hq => ?_⟩
        · have := of_decide_eq_true lb
          omega
        · have nqp : q ≠ p := fun z => by subst z; rw [upd_same] at hq; cases hq
          rw [upd_ne nqp] at hq
          have mem : ∀ b ∈ (a0 ++ a1) ++ as2, b ∈ as' := fun b z => h3.symm.mem_iff.mp z
          have np : ∀ b ∈ (a0 ++ a1) ++ as2, b ≠ p ∧ b ≠ q := fun b z => ⟨fun e => (g.own b (mem b z)).2 (by rw [e]; exact hp), fun e => (g.own b (mem b z)).2 (by rw [e]; exact hq)⟩
          have up : ∀ b o, H' b = some o → upd (upd H' p (.tup xs)) q (.tup [x, .ref p]) b = some o := fun b o e => by
            rw [upd_ne fun z => by subst z; rw [hq] at e; cases e]
            exact upd_some e fun z => by subst z; rw [hp] at e; cases e
          have up2 : ∀ b, H' b ≠ none → upd (upd H' p (.tup xs)) q (.tup [x, .ref p]) b ≠ none := fun b e => by
            cases z : H' b with
            | none => exact absurd z e
            | some o => rw [up b o z]; simp
          have c : ∀ bs, Car G' H' G' (upd (upd H' p (.tup xs)) q (.tup [x, .ref p])) bs := fun bs => ⟨fun _ _ e => e, fun b _ o e => up b o e⟩
          have hnd : ((a0 ++ a1) ++ as2).Nodup := (h3.nodup_iff).mp g.nd
          refine post (.ref q) σ G' _ (q :: (a0 ++ ((p :: a1) ++ []))) as2 (.tup upd_same (.cons (k1.car (c _)) (.cons (.tup (by rw [upd_ne (Ne.symm nqp)]; exact upd_same) (k2.car (c _))) .nil))) (h2.car (c _)) ⟨fun b o e => up b o (g.sub b o e), fun b z => ?_, ?_⟩ ⟨fun b o e _ => up b o e, fun _ _ e => e, fun _ _ _ e => e, fun b z => ?_, up2⟩ (.refl _)
          · have gn : ∀ b, H' b = none → G' b = none := fun b e => by
              cases z : G' b with
              | none => rfl
              | some o => rw [g.sub b o z] at e; cases e
            simp only [List.cons_append, List.append_nil, List.mem_cons, List.mem_append] at z
            by_cases e1 : b = q
            · subst e1; exact ⟨gn _ hq, by rw [upd_same]; simp⟩
            · by_cases e2 : b = p
              · subst e2; exact ⟨gn _ hp, by rw [upd_ne e1, upd_same]; simp⟩
              · have zz : b ∈ as' := mem b (by simp only [List.mem_append]; grind)
                exact ⟨(g.own b zz).1, up2 b (g.own b zz).2⟩
          · have n1 : q ∉ (a0 ++ a1) ++ as2 := fun z => (np q z).2 rfl
            have n2 : p ∉ (a0 ++ a1) ++ as2 := fun z => (np p z).1 rfl
            have e : (q :: (a0 ++ ((p :: a1) ++ []))) ++ as2 = q :: (a0 ++ (p :: (a1 ++ as2))) := by simp
            rw [e]
            have pm : (a0 ++ (p :: (a1 ++ as2))).Perm (p :: ((a0 ++ a1) ++ as2)) := by
              rw [List.append_assoc]; exact List.perm_middle
            refine List.nodup_cons.mpr ⟨fun z => ?_, (pm.nodup_iff).mpr (List.nodup_cons.mpr ⟨n2, hnd⟩)⟩
            rcases List.mem_cons.mp (pm.mem_iff.mp z) with z | z
            · exact nqp z
            · exact n1 z
          · simp only [List.cons_append, List.append_nil, List.mem_cons, List.mem_append] at z
            by_cases e1 : b = q
            · subst e1; exact .inr hq
            · by_cases e2 : b = p
              · subst e2; exact .inr hp
              · exact .inl (mem b (by simp only [List.mem_append]; grind))
end
end PyI

namespace PyI
open PySem PySem.Spec PyProof.Rows L2
/-! ## x[j][k].append(..): a list within an owned tuple is changed -/
def upAt (p : List PyData → Option (PyData × List PyData)) : List Nat → Sl → Option (PyData × Sl)
  | [], .lst xs => (p xs).map fun q => (q.1, .lst q.2)
  | k :: ks, .tup ss => match ss[k]? with
    | some s => (match upAt p ks s with
      | some q => some (q.1, .tup (ss.set k q.2))
      | none => none)
    | none => none
  | _, _ => none
inductive SA where
  | nil | con (d : PyData) | unit
def SA.ds : SA → List PyData
  | .nil => []
  | .con d => [d]
  | .unit => [.tuple []]
def mutPS (p : List PyData → List PyData → Option (PyData × List PyData)) (i : Nat) (ks : List Nat) (ds : List PyData) : SF := fun Γ => match Γ[i]? with
  | some s => (match upAt (fun xs => p xs ds) ks s with
    | some q => .next (Γ.set i q.2)
    | none => .no)
  | none => .no
def navQ (K : PySem.W.Frag) : List Nat → V → Hp → VK → Prop
  | [], v, H, Q => Q v H
  | k :: ks, v, H, Q => rIxT K v (.int (k : Nat)) H fun w H' => navQ K ks w H' Q
theorem navQ_snoc (K : PySem.W.Frag) (k : Nat) : ∀ (l : List Nat) (v : V) (H : Hp) (Q : VK), navQ K (l ++ [k]) v H Q = navQ K l v H fun w H' => rIxT K w (.int (k : Nat)) H' Q
  | [], v, H, Q => rfl
  | j :: l, v, H, Q => by
    show rIxT K v (.int (j : Nat)) H (fun w H' => navQ K (l ++ [k]) w H' Q) = rIxT K v (.int (j : Nat)) H (fun w H' => navQ K l w H' fun w H' => rIxT K w (.int (k : Nat)) H' Q)
    congr 1
    funext w H'
    exact navQ_snoc K k l w H' Q
/-- the path's reading; the last index first -/
def chT (K : PySem.W.Frag) (i : Nat) : List Nat → TE
  | [] => tVar i
  | k :: rp => tOp (rIxT K) (chT K i rp) (tC (.int (k : Nat)))
theorem chT_of {K : PySem.W.Frag} {i : Nat} {σ : L2.St} {H : Hp} : ∀ {rp : List Nat} {Q : VK}, (tVar i σ H fun v H0 => navQ K rp.reverse v H0 Q) → chT K i rp σ H Q
  | [], Q, h => h
  | k :: rp, Q, h => by
    refine chT_of (rp := rp) (Q := fun x H1 => rIxT K x (.int (k : Nat)) H1 Q) ?_
    obtain ⟨v, hv, q⟩ := h
    rw [List.reverse_cons, navQ_snoc] at q
    exact ⟨v, hv, q⟩
def saT (K : PySem.W.Frag) : SA → TA
  | .nil => tNil
  | .con (.int i) => tCons (tC (.int i)) tNil
  | .con (.str z) => tCons (tC (.str z)) tNil
  | .con (.bool z) => tCons (tC (.bl z)) tNil
  | .con _ => tCons (tC .non) tNil
  | .unit => tCons (tTup tNil) tNil
def SA.fine : SA → Bool
  | .con (.int _) => true
  | .con (.str _) => true
  | .con (.bool _) => true
  | .con .none => true
  | .con _ => false
  | _ => true
section
variable {K : PySem.W.Frag} {ca : Str → Addr} {W : WX} {io : Bool}
theorem sa_run {sa : SA} (hf : sa.fine = true) {σ : L2.St} {G H : Hp} (s : Sub G H) {Q : List V → Hp → Prop} (h : ∀ vs G2 H2, DpAll K G2 vs sa.ds → Good G2 H2 [] → Stp [] G H G2 H2 [] → Q vs H2) : saT K sa σ H Q := by
  cases sa with
  | nil => exact h [] G H .nil (good0 s) (.refl _ _ _)
  | unit =>
    refine ⟨Nat.zero_le _, fun p hp => ?_⟩
    obtain ⟨G', d, g, st⟩ := newT (K := K) (vs := []) (ds := []) s .nil hp
    exact h [.ref p] G' _ (.cons d .nil) g st
  | con d =>
    cases d <;> first | (cases hf; done) | skip
    · exact h [.non] G H (.cons .non .nil) (good0 s) (.refl _ _ _)
    · exact h _ G H (.cons (.bl _) .nil) (good0 s) (.refl _ _ _)
    · exact h _ G H (.cons (.int _) .nil) (good0 s) (.refl _ _ _)
    · exact h _ G H (.cons (.str _) .nil) (good0 s) (.refl _ _ _)
theorem RepL.at {G H : Hp} : ∀ {vs : List V} {ss : List Sl} {as : List Addr} {k : Nat} {s : Sl}, RepL K G H vs ss as → ss[k]? = some s → ∃ v pre av post, as = pre ++ (av ++ post) ∧ vs[k]? = some v ∧ RepS K G H v s av ∧
    ∀ G' H' s', Car G H G' H' (pre ++ post) → RepS K G' H' v s' av → RepL K G' H' vs (ss.set k s') (pre ++ (av ++ post))
  | _, _, _, k, _, .nil, h => by simp at h
  | _, _, _, 0, _, .cons (v := v) (as := a) (bs := bs) h0 r, h => by
    cases h
    exact ⟨v, [], a, bs, rfl, rfl, h0, fun G' H' s' c q => (show RepL K G' H' _ _ (a ++ bs) from .cons q (r.car c))⟩
  | _, _, _, k + 1, _, .cons (as := a) h0 r, h => by
    obtain ⟨v, pre, av, post, e, h1, h2, h3⟩ := r.at (k := k) (by simpa using h)
    refine ⟨v, a ++ pre, av, post, by rw [e, List.append_assoc], by simpa using h1, h2, fun G' H' s' c q => ?_⟩
    rw [List.append_assoc]
    exact .cons (h0.car (c.less (by simp +contextual))) (h3 G' H' s' (c.less (by
      intro b z
      rcases List.mem_append.mp z with z | z <;> simp [z])) q)
theorem atI_nat {α : Type} {xs : List α} {k : Nat} {v : α} (h : xs[k]? = some v) : atI xs (k : Nat) = some v := by
  have hk : k < xs.length := by
    by_cases z : k < xs.length
    · exact z
    · rw [List.getElem?_eq_none (by omega)] at h; cases h
  unfold atI ixN
  rw [if_pos (by omega), if_pos (by omega)]
  simpa using h
theorem nav_up {p : List PyData → Option (PyData × List PyData)} {G H : Hp} : ∀ {ks : List Nat} {v : V} {s s' : Sl} {d : PyData} {av : List Addr}, RepS K G H v s av → av.Nodup → upAt p ks s = some (d, s') →
    ∃ l xs dxs ys, (∀ Q : VK, Q (.ref l) H → navQ K ks v H Q) ∧ H l = some (.lst xs) ∧ DpAll K G xs dxs ∧ p dxs = some (d, ys) ∧ l ∈ av ∧
      ∀ (G' H' : Hp) (ws : List V), (∀ a o, G a = some o → G' a = some o) → (∀ a ∈ av, a ≠ l → ∀ o, H a = some o → H' a = some o) → H' l = some (.lst ws) → DpAll K G' ws ys → RepS K G' H' v s' av
  | [], v, s, s', d, av, r, n, h => by
    cases r with
    | val _ => cases h
    | tup _ _ => cases h
    | @lst l xs dxs h1 h2 =>
      unfold upAt at h
      cases q : p dxs with
      | none => rw [q] at h; cases h
      | some z =>
        rw [q] at h
        cases h
        exact ⟨l, xs, dxs, z.2, fun Q h => h, h1, h2, q, by simp, fun G' H' ws _ _ e dw => .lst e dw⟩
  | k :: ks, v, s, s', d, av, r, n, h => by
    cases r with
    | val _ => cases h
    | lst _ _ => cases h
    | @tup a vs ss as h1 h2 =>
      unfold upAt at h
      cases q : ss[k]? with
      | none => rw [q] at h; cases h
      | some sk =>
        rw [q] at h
        dsimp only at h
        cases q2 : upAt p ks sk with
        | none => rw [q2] at h; cases h
        | some z =>
          rw [q2] at h
          cases h
          obtain ⟨vk, pre, ak, post, e, g1, g2, g3⟩ := h2.at q
          subst e
          obtain ⟨na, nr⟩ := List.nodup_cons.mp n
          obtain ⟨n1, n2, n3⟩ := List.nodup_append.mp nr
          obtain ⟨n4, n5, n6⟩ := List.nodup_append.mp n2
          obtain ⟨l, xs, dxs, ys, e1, e2, e3, e4, e5, e6⟩ := nav_up (ks := ks) (d := z.1) (s' := z.2) g2 n4 (by rw [q2])
          have la : a ≠ l := fun w => na (by rw [w]; simp [e5])
          refine ⟨l, xs, dxs, ys, fun Q hq => ⟨a, vs, (k : Nat), vk, rfl, rfl, .inl (.inl h1), atI_nat g1, e1 Q hq⟩, e2, e3, e4, by simp [e5], fun G' H' ws kG kH hl dw => ?_⟩
          refine .tup (kH a (by simp) la _ h1) (g3 G' H' _ ⟨kG, fun b hb o eb => kH b (by rcases List.mem_append.mp hb with z | z <;> simp [z]) (fun w => ?_) o eb⟩ (e6 G' H' ws kG (fun b hb => kH b (by simp [hb])) hl dw))
          subst w
          rcases List.mem_append.mp hb with z | z
          · exact n3 b z b (by simp [e5]) rfl
          · exact n6 b e5 b z rfl
theorem mutP_run {m : List PyData → List PyData → Option (PyData × List PyData)} {i : Nat} {rp : List Nat} {sa : SA} {D : Ends} {σ : L2.St} {H : Hp} (hf : sa.fine = true) (h : TSv K ca W io (mutPS m i rp.reverse sa.ds) D σ H) :
    tDrop (tBM K "list" (MutR K m) (chT K i rp) (saT K sa)) D σ H := by
  obtain ⟨Γ, G, as, r, g, h⟩ := h
  unfold mutPS at h
  cases q0 : Γ[i]? with
  | none => rw [q0] at h; exact h.elim
  | some s =>
    rw [q0] at h
    dsimp only at h
    cases q1 : upAt (fun xs => m xs sa.ds) rp.reverse s with
    | none => rw [q1] at h; exact h.elim
    | some z =>
      rw [q1] at h
      have hl : i < Γ.length := by
        by_cases z : i < Γ.length
        · exact z
        · rw [List.getElem?_eq_none (by omega)] at q0; cases q0
      have hn : s ≠ .un := fun e => by
        subst e
        cases e2 : rp.reverse <;> rw [e2] at q1 <;> cases q1
      obtain ⟨pre, av, post, e, f, k⟩ := r.at hl
      obtain ⟨v, hv, rs⟩ := f s q0 hn
      subst e
      obtain ⟨n1, n2, n3⟩ := List.nodup_append.mp g.nd
      obtain ⟨n4, n5, n6⟩ := List.nodup_append.mp n2
      obtain ⟨l, xs, dxs, ys, e1, e2, e3, e4, e5, e6⟩ := nav_up (d := z.1) (s' := z.2) rs n4 (by rw [q1])
      refine chT_of ⟨v, hv, e1 _ ⟨.inl ⟨rfl, xs, .inl (.inl e2)⟩, sa_run hf g.sub fun vs G2 H2 da g2 st => ?_⟩⟩
      have hl2 : H2 l = some (.lst xs) := st.kH l _ e2 (by simp)
      refine ⟨l, xs, G2, dxs, sa.ds, z.1, ys, rfl, hl2, g2.sub, DpAll_mono st.kG e3, da, e4, fun v2 ws _ dw => ?_⟩
      have lin : l ∈ pre ++ (av ++ post) := by simp [e5]
      have Gl2 : ∀ a ∈ pre ++ (av ++ post), G2 a = none := fun a ha => st.nG a (g.own a ha).2 (by simp) (g.own a ha).1
      have kH3 : ∀ a o, a ≠ l → H a = some o → upd H2 l (.lst ws) a = some o := fun a o n e => by rw [upd_ne n]; exact st.kH a o e (by simp)
      have rs' : RepS K G2 (upd H2 l (.lst ws)) v z.2 av := e6 G2 _ ws st.kG (fun a _ n o e => kH3 a o n e) upd_same dw
      have rE := k G2 (upd H2 l (.lst ws)) ⟨st.kG, fun b hb o eb => kH3 b o (fun w => by
        subst w
        rcases List.mem_append.mp hb with z | z
        · exact n3 b z b (by simp [e5]) rfl
        · exact n6 b e5 b z rfl) eb⟩ v z.2 av rs'
      rw [set_same hv] at rE
      have ex : ∀ a, H a ≠ none → upd H2 l (.lst ws) a ≠ none := fun a e => by
        by_cases w : a = l
        · subst w; rw [upd_same]; simp
        · rw [upd_ne w]; exact st.there a e
      exact h σ G2 _ _ rE ⟨fun a o e => by
        by_cases w : a = l
        · subst w; rw [Gl2 a lin] at e; cases e
        · rw [upd_ne w]; exact g2.sub a o e, fun a ha => ⟨Gl2 a ha, ex a (g.own a ha).2⟩, g.nd⟩
        ⟨fun a o e n => kH3 a o (fun w => n (by rw [w]; exact lin)) e, st.kG, fun a e n gz => st.nG a e (by simp) gz, fun a z => .inl z, ex⟩ (.refl _)
end
end PyI

namespace PyI
open PySem PySem.Spec PyProof.Rows L2
/-! ## statements from the text -/
inductive S where
  | next | brk | cont | no | retN
  | expr (e : E)
  | ret (e : E)
  | set (i : Nat) (e : E)
  | unp (is : List Nat) (o : O)
  | setIx (i : Nat) (k v : E)
  | ite (c : E) (x y : S)
  | forS (it : I) (tg : Tg) (x : S)
  | whS (c : E) (x : S)
  | seq (x y : S)
  | retT (a : O) (ys : List O)
  | mutP (m : Mm) (i : Nat) (rp : List Nat) (sa : SA)
/-- a loop by some fuel that is enough -/
noncomputable def whS (c : F) (b : SF) : SF := fun Γ => open Classical in if h : ∃ n, whL c b n Γ ≠ .no then whL c b h.choose Γ else .no
theorem whL_mono (c : F) (b : SF) : ∀ (n : Nat) (Γ : Env), whL c b n Γ ≠ .no → ∀ m, n ≤ m → whL c b m Γ = whL c b n Γ
  | 0, Γ, h, m, _ => absurd rfl h
  | n + 1, Γ, h, 0, l => by omega
  | n + 1, Γ, h, m + 1, l => by
    unfold whL at h ⊢
    cases q : c Γ with
    | no => rw [q] at h; exact absurd rfl h
    | ex _ _ _ => rfl
    | ok s Γ1 =>
      rw [q] at h
      simp only [Res.fl] at h ⊢
      cases q2 : s.bit with
      | none => rfl
      | some t =>
        rw [q2] at h
        cases t with
        | false => rfl
        | true =>
          dsimp only at h ⊢
          cases q3 : b Γ1 with
          | next Γ2 => rw [q3] at h; exact whL_mono c b n Γ2 h m (by omega)
          | cont Γ2 => rw [q3] at h; exact whL_mono c b n Γ2 h m (by omega)
          | brk _ => rfl
          | ret _ _ => rfl
          | ex _ _ _ => rfl
          | no => rfl
theorem whS_eq {c : F} {b : SF} {n : Nat} {Γ : Env} (h : whL c b n Γ ≠ .no) : whS c b Γ = whL c b n Γ := by
  have ex : ∃ n, whL c b n Γ ≠ .no := ⟨n, h⟩
  unfold whS
  rw [dif_pos ex]
  have k := ex.choose_spec
  rcases Nat.le_total ex.choose n with l | l
  · exact (whL_mono c b _ Γ k n l).symm
  · exact whL_mono c b n Γ h _ l
/-- one turn -/
theorem whS_unfold (c : F) (b : SF) (Γ : Env) : whS c b Γ = (c Γ).fl fun s Γ1 => match s.bit with
    | some true => (match b Γ1 with
      | .next Γ2 => whS c b Γ2
      | .cont Γ2 => whS c b Γ2
      | .brk Γ2 => .next Γ2
      | .ret s Γ2 => .ret s Γ2
      | .ex c d Γ2 => .ex c d Γ2
      | .no => .no)
    | some false => .next Γ1
    | none => .no := by
  have sub : ∀ Γ2, (∀ n, whL c b n Γ2 = .no) → whS c b Γ2 = .no := fun Γ2 h => by
    unfold whS
    rw [dif_neg]
    rintro ⟨n, k⟩
    exact k (h n)
  by_cases ex : ∃ n, whL c b n Γ ≠ .no
  · obtain ⟨n, hn⟩ := ex
    rw [whS_eq hn]
    cases n with
    | zero => exact absurd rfl hn
    | succ n =>
      unfold whL at hn ⊢
      cases q : c Γ with
      | no => rfl
      | ex _ _ _ => rfl
      | ok s Γ1 =>
        rw [q] at hn
        simp only [Res.fl] at hn ⊢
        cases q2 : s.bit with
        | none => rfl
        | some t =>
          rw [q2] at hn
          cases t with
          | false => rfl
          | true =>
            dsimp only at hn ⊢
            cases q3 : b Γ1 with
            | next Γ2 => rw [q3] at hn; exact (whS_eq hn).symm
            | cont Γ2 => rw [q3] at hn; exact (whS_eq hn).symm
            | brk _ => rfl
            | ret _ _ => rfl
            | ex _ _ _ => rfl
            | no => rfl
  · have ex' : ∀ n, whL c b n Γ = .no := fun n => by
      by_cases h : whL c b n Γ = .no
      · exact h
      · exact absurd ⟨n, h⟩ ex
    rw [sub Γ ex']
    cases q : c Γ with
    | no => rfl
    | ex _ _ _ =>
      have := ex' 1
      unfold whL at this
      rw [q] at this
      exact this.symm
    | ok s Γ1 =>
      simp only [Res.fl]
      cases q2 : s.bit with
      | none => rfl
      | some t =>
        have tr : ∀ n, whL c b (n + 1) Γ = .no := fun n => ex' (n + 1)
        simp only [whL, q, Res.fl, q2] at tr
        cases t with
        | false => exact (tr 0).symm
        | true =>
          dsimp only at tr ⊢
          cases q3 : b Γ1 with
          | next Γ2 =>
            simp only [q3] at tr
            exact (sub Γ2 tr).symm
          | cont Γ2 =>
            simp only [q3] at tr
            exact (sub Γ2 tr).symm
          | brk _ => simp only [q3] at tr; exact (tr 0).symm
          | ret _ _ => simp only [q3] at tr; exact (tr 0).symm
          | ex _ _ _ => simp only [q3] at tr; exact (tr 0).symm
          | no => rfl
noncomputable def evS (io : Bool) (φ : Str → Fn) : S → SF
  | .next => nextS
  | .brk => brkS
  | .cont => contS
  | .no => noS
  | .retN => retNS
  | .expr e => exprS (evE φ e)
  | .ret e => retS (evE φ e)
  | .set i e => setS io i (evE φ e)
  | .unp is o => unpS io is (evO φ o)
  | .setIx i k v => setIxS i (evE φ k) (evE φ v)
  | .ite c x y => ifS (evE φ c) (evS io φ x) (evS io φ y)
  | .forS it tg x => forS io (evI φ it) tg (evS io φ x)
  | .whS c x => whS (evE φ c) (evS io φ x)
  | .seq x y => seqS (evS io φ x) (evS io φ y)
  | .retT a ys => retT (evO φ a) (evOs φ ys)
  | .mutP m i rp sa => mutPS (mden m) i rp.reverse sa.ds
def isCompE : Expr → Bool
  | .ListComp .. => true
  | .SetComp .. => true
  | .DictComp .. => true
  | _ => false
def isLoc (c : CC) (x : Str) : Bool := match c.sc.names.lookup x with
  | some .local => true
  | _ => false
def inScope (scope : Scope) (x : Str) : Bool := scope.names.any fun (n, k) => n == x && (k == .local || k == .cell)
def cAsgLc (c : CC) (x : Str) (px : Pos) : Expr → Option S
  | .ListComp elt [⟨tg, iter, ifs, 0⟩] scope pos => if (isLoc c x && px.line == pos.line && !inScope scope x) = true then (match tgSlot c x, cComp (cmp 40) c elt tg iter ifs scope with
      | some i, some e => some (.set i e)
      | _, _ => none) else none
  | _ => none
def cAsgN (c : CC) (x : Str) (px : Pos) (v : Expr) : Option S := if isCompE v = true then cAsgLc c x px v else (match tgSlot c x, cmp 40 c false v with
    | some i, some e => some (.set i e)
    | _, _ => none)
def cAsgT (c : CC) (es : List Expr) (v : Expr) : Option S := if isTupE v = true then none else if isCompE v = true then none else (match nameSlots c es, cO (cmp 40) c v with
    | some is, some o => some (.unp is o)
    | _, _ => none)
def cAsgI (c : CC) (x : Str) (k v : Expr) : Option S := if isCompE v = true then none else (match slotOf c x, cmp 40 c false k, cmp 40 c false v with
    | some i, some k, some v => some (.setIx i k v)
    | _, _, _ => none)
def cAsg (c : CC) (tg v : Expr) : Option S := match tg with
  | .Name x px => cAsgN c x px v
  | .Tuple es _ _ => cAsgT c es v
  | .Subscript (.Name x _) k _ => if isSlice k = true then none else cAsgI c x k v
  | _ => none
def pathOf (c : CC) : Expr → Option (Nat × List Nat)
  | .Name x _ => (slotOf c x).map fun i => (i, [])
  | .Subscript o (.Constant (.int (.ofNat k)) _ _) _ => (match pathOf c o with
    | some p => some (p.1, k :: p.2)
    | none => none)
  | _ => none
def saOf : List Expr → Option SA
  | [] => some .nil
  | [.Constant (.int i) _ _] => some (.con (.int i))
  | [.Constant (.str i) _ _] => some (.con (.str i))
  | [.Tuple [] _ _] => some .unit
  | _ => none
def mmOf (m : Str) : Option Mm := if m = "append" then some .append else if m = "clear" then some .clear else if m = "extend" then some .extend else if m = "pop" then some .pop else none
def cMutP (c : CC) : Expr → Option S
  | .Call (.Attribute o m ap) args [] cp => if (ap.endLine == cp.line) = true then (match pathOf c o, saOf args, mmOf m with
    | some p, some sa, some m => some (.mutP m p.1 p.2 sa)
    | _, _, _ => none) else none
  | _ => none
def cRetT (c : CC) : Expr → Option S
  | .Tuple [a, .Tuple ys _ _] _ _ => (match cO (cmp 40) c a, cOs (cmp 40) c ys with
    | some a, some ys => some (.retT a ys)
    | _, _ => none)
  | _ => none
mutual
def cS (c : CC) : Stmt → Option S
  | .Pass _ => some .next
  | .Break _ => some .brk
  | .Continue _ => some .cont
  | .Raise _ _ _ => some .no
  | .Return none _ => some .retN
  | .Return (some e) p => if c.T.tups.contains p.line = true then cRetT c e else (cmp 40 c false e).map .ret
  | .Expr e _ => if isCompE e = true then none else (match cmp 40 c false e with
    | some e => some (.expr e)
    | none => cMutP c e)
  | .Assign [tg] v _ => cAsg c tg v
  | .If t a b _ => (match cmp 40 c true t, cSs c a, cSs c b with
    | some t, some a, some b => some (.ite t a b)
    | _, _, _ => none)
  | .For tg iter body [] _ => (match cI (cmp 40) c (isTupE tg) iter, cTg c tg, cSs c body with
    | some it, some g, some b => some (.forS it g b)
    | _, _, _ => none)
  | .While t body [] _ => (match cmp 40 c true t, cSs c body with
    | some t, some b => some (.whS t b)
    | _, _ => none)
  | _ => none
def cSs (c : CC) : List Stmt → Option S
  | [] => some .next
  | st :: rest => (match cS c st, cSs c rest with
    | some a, some b => some (.seq a b)
    | _, _ => none)
end
structure SOk (ca : Str → Addr) (φ : Str → Fn) (k : Nat) (c : CC) (X : Cx) (W : WX) : Prop extends XOk ca φ k c X W where
  pas : PassesOwn (model X.prog X.w) X.A X.env X.xe
  fk : X.env.scope.kind = .function
section
variable {ca : Str → Addr} {φ : Str → Fn} {k : Nat} {c : CC} {X : Cx} {W : WX} {io : Bool}
theorem wh_run {cc : F} {b : SF} {D : Ends} {σ : L2.St} {H : Hp} (h : TSv X.K ca W io (whS cc b) D σ H) : tWhile (TTv X.K ca W cc) (TSv X.K ca W io b) D σ H := by
  obtain ⟨Γ, G, as, r, g, h⟩ := h
  by_cases ex : ∃ n, whL cc b n Γ ≠ .no
  · obtain ⟨n, hn⟩ := ex
    rw [whS_eq hn] at h
    exact while_run (n := n) ⟨Γ, G, as, r, g, h⟩
  · unfold whS at h
    rw [dif_neg ex] at h
    exact h.elim
theorem sw_plain {e : Expr} {t : Option Expr} {l : Nat} {env : PySem.Env} (h : isCompE e = false) : swapsWith e t l env = pure false := by
  cases e <;> first | rfl | (cases h)
theorem sole_plain {e t : Expr} {l : Nat} {env : PySem.Env} (h : isCompE e = false) : swapsWithSole [t] e l env = pure false := sw_plain h
theorem no_tup {es : List Expr} {kk : Nat} {p : Pos} {e : Expr} {env : PySem.Env} (h : isTupE e = false) : swappedStores [.Tuple es kk p] e env = pure none := by
  cases e <;> first | rfl | (cases h)
theorem loc_ok (O : SOk ca φ k c X W) {x : Str} (h : isLoc c x = true) : X.env.scope.names.lookup x = some .local := by
  rw [O.sc]
  unfold isLoc at h
  split at h
  · assumption
  · cases h
theorem slot_tg (O : SOk ca φ k c X W) {x : Str} {i : Nat} (h : tgSlot c x = some i) : X.N[i]? = some x := by
  unfold tgSlot at h
  split at h
  · rw [O.N]; exact idxOf_0 h
  · cases h
theorem s_asgLc (O : SOk ca φ k c X W) {x : Str} {px : Pos} {v : Expr} {pos : Pos} {s : S} (h : cAsgLc c x px v = some s) : PS X (.Assign [.Name x px] v pos) (TSv X.K ca W io (evS io φ s)) := by
  have R : RcOk ca φ k (cmp 40) := cmp_ok 40
  unfold cAsgLc at h
  split at h
  · rename_i elt tg iter ifs scope lp
    by_cases cc : (isLoc c x && px.line == lp.line && !inScope scope x) = true
    · rw [if_pos cc] at h
      simp only [Bool.and_eq_true, Bool.not_eq_true'] at cc
      cases q1 : tgSlot c x with
      | none => rw [q1] at h; cases h
      | some i =>
      rw [q1] at h
      cases q2 : cComp (cmp 40) c elt tg iter ifs scope with
      | none => rw [q2] at h; cases h
      | some e =>
      rw [q2] at h
      cases h
      have lx := loc_ok O cc.1.1
      obtain ⟨t, w, p⟩ := s_compS R O.toXOk (W := W) q2 (slot_tg O q1) lx (sw_true (y := x) (py := px) (l := pos.line) O.fk lx cc.1.2 cc.2)
      exact p.weak fun D σ H q => w _ _ _ _ (set_run (by simpa only [evS] using q))
    · rw [if_neg cc] at h; cases h
  · cases h
theorem s_asgN (O : SOk ca φ k c X W) {x : Str} {px : Pos} {v : Expr} {pos : Pos} {s : S} (h : cAsgN c x px v = some s) : PS X (.Assign [.Name x px] v pos) (TSv X.K ca W io (evS io φ s)) := by
  have R : RcOk ca φ k (cmp 40) := cmp_ok 40
  unfold cAsgN at h
  by_cases nc : isCompE v = true
  · rw [if_pos nc] at h; exact s_asgLc O h
  · rw [if_neg nc] at h
    cases q1 : tgSlot c x with
    | none => rw [q1] at h; cases h
    | some i =>
    rw [q1] at h
    cases q2 : cmp 40 c false v with
    | none => rw [q2] at h; cases h
    | some e =>
    rw [q2] at h
    cases h
    have sv : PE X v (TEv X.K ca W (evE φ e)) := (R c X W false _ _ O.toXOk q2).2
    have gv := tgslot_ok O.toXOk (p := px) q1
    exact (ps_asg sv gv (sole_plain (by simpa using nc)) rfl rfl).weak fun D σ H q => set_run (by simpa only [evS] using q)
theorem s_asgT (O : SOk ca φ k c X W) {es : List Expr} {kk : Nat} {tp : Pos} {v : Expr} {pos : Pos} {s : S} (h : cAsgT c es v = some s) : PS X (.Assign [.Tuple es kk tp] v pos) (TSv X.K ca W io (evS io φ s)) := by
  have R : RcOk ca φ k (cmp 40) := cmp_ok 40
  unfold cAsgT at h
  by_cases nt : isTupE v = true
  · rw [if_pos nt] at h; cases h
  rw [if_neg nt] at h
  by_cases nc : isCompE v = true
  · rw [if_pos nc] at h; cases h
  rw [if_neg nc] at h
  cases q1 : nameSlots c es with
  | none => rw [q1] at h; cases h
  | some is =>
  rw [q1] at h
  cases q2 : cO (cmp 40) c v with
  | none => rw [q2] at h; cases h
  | some o =>
  rw [q2] at h
  cases h
  obtain ⟨ho, _⟩ := o_ok R O.toXOk q2
  obtain ⟨p1, p2, p3⟩ := names_ok O.toXOk q1
  have hg : PG X (.Tuple es kk tp) (fun v σ H Q => gTup X.K is.length (is.foldr (fun i t => gCons (gName i) t) gNil) v σ H Q ∨ gLst X.K is.length (is.foldr (fun i t => gCons (gName i) t) gNil) v σ H Q) :=
    ⟨fun pins s σ H v u Q I r h => h.elim (fun h => (pg_tup O.calm p1 p2 p3).run pins s σ H v u Q I r h) (fun h => (pg_lst O.calm p1 p2 p3).run pins s σ H v u Q I r h)⟩
  exact (ps_asg ho hg (sole_plain (by simpa using nc)) (no_tup (by simpa using nt)) rfl).weak fun D σ H q => unp_run rfl (by simpa only [evS] using q)
theorem s_asgI (O : SOk ca φ k c X W) {x : Str} {px sp : Pos} {kx v : Expr} {pos : Pos} {s : S} (nk : isSlice kx = false) (h : cAsgI c x kx v = some s) : PS X (.Assign [.Subscript (.Name x px) kx sp] v pos) (TSv X.K ca W io (evS io φ s)) := by
  have R : RcOk ca φ k (cmp 40) := cmp_ok 40
  unfold cAsgI at h
  by_cases nc : isCompE v = true
  · rw [if_pos nc] at h; cases h
  rw [if_neg nc] at h
  cases q1 : slotOf c x with
  | none => rw [q1] at h; cases h
  | some i =>
  rw [q1] at h
  cases q2 : cmp 40 c false kx with
  | none => rw [q2] at h; cases h
  | some ek =>
  rw [q2] at h
  cases q3 : cmp 40 c false v with
  | none => rw [q3] at h; cases h
  | some ev =>
  rw [q3] at h
  cases h
  have sv : PE X v (TEv X.K ca W (evE φ ev)) := (R c X W false _ _ O.toXOk q3).2
  have sk : PE X kx (TEv X.K ca W (evE φ ek)) := (R c X W false _ _ O.toXOk q2).2
  have hg : PG X (.Subscript (.Name x px) kx sp) (gSub (tVar i) (TEv X.K ca W (evE φ ek)) rSetL) := pg_sub (slot_ok O.toXOk q1) sk set_list (by intro _; cases kx <;> first | rfl | cases nk)
  exact (ps_asg sv hg (sole_plain (by simpa using nc)) rfl rfl).weak fun D σ H q => setIx_run (by simpa only [evS] using q)
theorem s_asg (O : SOk ca φ k c X W) {tg v : Expr} {pos : Pos} {s : S} (h : cAsg c tg v = some s) : PS X (.Assign [tg] v pos) (TSv X.K ca W io (evS io φ s)) := by
  unfold cAsg at h
  split at h
  · exact s_asgN O h
  · exact s_asgT O h
  · split at h
    · cases h
    · rename_i nk; exact s_asgI O (by simpa using nk) h
  · cases h
theorem s_retT (O : SOk ca φ k c X W) {e : Expr} {pos : Pos} {s : S} (h : cRetT c e = some s) : PS X (.Return (some e) pos) (TSv X.K ca W io (evS io φ s)) := by
  have R : RcOk ca φ k (cmp 40) := cmp_ok 40
  unfold cRetT at h
  split at h
  · rename_i a ys j p j2 p2
    cases q1 : cO (cmp 40) c a with
    | none => rw [q1] at h; cases h
    | some oa =>
    rw [q1] at h
    cases q2 : cOs (cmp 40) c ys with
    | none => rw [q2] at h; cases h
    | some oys =>
    rw [q2] at h
    cases h
    obtain ⟨ha, pa⟩ := o_ok R O.toXOk q1
    obtain ⟨hys, _⟩ := os_ok R O.toXOk q2
    refine (ps_ret (pe_tup (pa_cons ha (pa_cons (pe_tup hys) pa_nil rfl) (pa.st _ _)))).weak fun D σ H q => ?_
    have z := retT_run (a := evO φ oa) (ys := evOs φ oys) (by simpa only [evS] using q)
    refine TEo (show tOpd X.K ca W (evO φ oa) σ H (fun x H1 => taOs X.K ca W (evOs φ oys) σ H1 fun xs H' => ∃ x' xs', x :: xs = x' :: xs' ∧ _) from z) fun x H1 z => taOs_mono z fun xs H2 ⟨x', xs', e, hz, q⟩ => ?_
    cases e
    exact ⟨hz, fun p hp => ⟨Nat.le_trans (by decide : 2 ≤ 1000) (by rw [sizeLine_eq]; omega), fun q' hq' => q p hp q' hq'⟩⟩
  · cases h
theorem path_ok (O : XOk ca φ k c X W) (e : Expr) {p : Nat × List Nat} (h : pathOf c e = some p) : PE X e (chT X.K p.1 p.2) ∧ superLike e = false := by
  unfold pathOf at h
  split at h
  · rename_i x pos
    cases q : slotOf c x with
    | none => rw [q] at h; cases h
    | some i => rw [q] at h; cases h; exact ⟨slot_ok O q, rfl⟩
  · rename_i o k j p1 p2
    cases q : pathOf c o with
    | none => rw [q] at h; cases h
    | some z =>
      rw [q] at h
      cases h
      have ih := path_ok O o q
      exact ⟨pe_ix ix_tup ih.1 pe_int (fun _ _ => rfl), rfl⟩
  · cases h
termination_by sizeOf e
theorem mm_ok {m : Str} {mm : Mm} (h : mmOf m = some mm) : ∃ id, Slot "list" m id ∧ typeOf (.builtin id) = pure (.type "method_descriptor") ∧ MtR X id (MutR X.K (mden mm)) := by
  unfold mmOf at h
  split at h
  · rename_i e; subst e; cases h; exact ⟨_, PySem.F.slot_list_append, PySem.F.type_list_append, rl_append⟩
  · split at h
    · rename_i e; subst e; cases h; exact ⟨_, PySem.F.slot_list_clear, PySem.F.type_list_clear, rl_clear⟩
    · split at h
      · rename_i e; subst e; cases h; exact ⟨_, PySem.F.slot_list_extend, PySem.F.type_list_extend, rl_extend⟩
      · split at h
        · rename_i e; subst e; cases h; exact ⟨_, PySem.F.slot_list_pop, PySem.F.type_list_pop, rl_pop⟩
        · cases h
theorem sa_ok {args : List Expr} {sa : SA} (h : saOf args = some sa) : sa.fine = true ∧ ((args = [] ∧ sa = .nil) ∨ ∃ a, args = [a] ∧ Pl a ∧ PA X [a] (saT X.K sa)) := by
  unfold saOf at h
  split at h
  · cases h; exact ⟨rfl, .inl ⟨rfl, rfl⟩⟩
  · cases h; exact ⟨rfl, .inr ⟨_, rfl, pl_of _ (by simp) (by simp), pa_cons pe_int pa_nil rfl⟩⟩
  · cases h; exact ⟨rfl, .inr ⟨_, rfl, pl_of _ (by simp) (by simp), pa_cons pe_str pa_nil rfl⟩⟩
  · cases h; exact ⟨rfl, .inr ⟨_, rfl, pl_of _ (by simp) (by simp), pa_cons (pe_tup pa_nil) pa_nil rfl⟩⟩
  · cases h
theorem s_mutP (O : SOk ca φ k c X W) {e : Expr} {pos : Pos} {s : S} (nc : isCompE e = false) (h : cMutP c e = some s) : PS X (.Expr e pos) (TSv X.K ca W io (evS io φ s)) := by
  unfold cMutP at h
  split at h
  · rename_i o m ap args cp
    by_cases hl : (ap.endLine == cp.line) = true
    · rw [if_pos hl] at h
      cases q1 : pathOf c o with
      | none => rw [q1] at h; cases h
      | some p =>
      rw [q1] at h
      cases q2 : saOf args with
      | none => rw [q2] at h; cases h
      | some sa =>
      rw [q2] at h
      cases q3 : mmOf m with
      | none => rw [q3] at h; cases h
      | some mm =>
      rw [q3] at h
      cases h
      obtain ⟨ho, hs⟩ := path_ok O.toXOk o q1
      obtain ⟨id, sl, ty, hm⟩ := mm_ok (X := X) q3
      obtain ⟨hf, ha⟩ := sa_ok (X := X) q2
      rcases ha with ⟨rfl, rfl⟩ | ⟨a, rfl, pa, hpa⟩
      · exact (ps_expr (pe_bm0 PySem.F.plainAttrs_list sl ty hm ho (base_ok _ _ hs) hl) (sw_plain nc)).weak fun D σ H q => mutP_run hf (by simpa only [evS] using q)
      · exact (ps_expr (pe_bm PySem.F.plainAttrs_list sl ty hm ho hpa (base_ok _ _ hs) (few_ok pa) hl (pa.st _ _) rfl) (sw_plain nc)).weak fun D σ H q => mutP_run hf (by simpa only [evS] using q)
    · rw [if_neg hl] at h; cases h
  · cases h
theorem PS.wk {st : Stmt} {t u : TS} (h : PS X st t) (w : ∀ D σ H, u D σ H → t D σ H) : PS X st u := h.weak w
mutual
theorem cS_ok (O : SOk ca φ k c X W) (st : Stmt) {s : S} (h : cS c st = some s) : PS X st (TSv X.K ca W io (evS io φ s)) := by
  have R : RcOk ca φ k (cmp 40) := cmp_ok 40
  unfold cS at h
  split at h
  · cases h; exact ps_pass.weak fun D σ H q => next_run (by simpa only [evS] using q)
  · cases h; exact ps_break.weak fun D σ H q => brk_run (by simpa only [evS] using q)
  · cases h; exact ps_continue.weak fun D σ H q => cont_run (by simpa only [evS] using q)
  · cases h; exact ps_never.weak fun D σ H ⟨Γ, G, as, r, g, q⟩ => q.elim
  · cases h; exact ps_retN.weak fun D σ H q => retN_run (by simpa only [evS] using q)
  · rename_i e p
    by_cases ct : c.T.tups.contains p.line = true
    · rw [if_pos ct] at h; exact s_retT O h
    rw [if_neg ct] at h
    cases q : cmp 40 c false e with
    | none => rw [q] at h; cases h
    | some ir =>
      rw [q] at h
      cases h
      exact (ps_ret (R c X W false _ _ O.toXOk q).2).weak fun D σ H q => ret_run (by simpa only [evS] using q)
  · rename_i e p
    by_cases nc : isCompE e = true
    · rw [if_pos nc] at h; cases h
    · rw [if_neg nc] at h
      cases q : cmp 40 c false e with
      | none => rw [q] at h; exact s_mutP O (by simpa using nc) h
      | some ir =>
        rw [q] at h
        cases h
        exact (ps_expr (R c X W false _ _ O.toXOk q).2 (sw_plain (by simpa using nc))).weak fun D σ H q => expr_run (by simpa only [evS] using q)
  · exact s_asg O h
  · rename_i t a b p
    cases q1 : cmp 40 c true t with
    | none => rw [q1] at h; cases h
    | some it =>
    rw [q1] at h
    cases q2 : cSs c a with
    | none => rw [q2] at h; cases h
    | some ia =>
    rw [q2] at h
    cases q3 : cSs c b with
    | none => rw [q3] at h; cases h
    | some ib =>
    rw [q3] at h
    cases h
    exact (ps_if (R c X W true _ _ O.toXOk q1).2 (cSs_ok O a q2) (cSs_ok O b q3)).weak fun D σ H q => if_run (by simpa only [evS] using q)
  · rename_i tg iter body p
    cases q1 : cI (cmp 40) c (isTupE tg) iter with
    | none => rw [q1] at h; cases h
    | some it =>
    rw [q1] at h
    cases q2 : cTg c tg with
    | none => rw [q2] at h; cases h
    | some g =>
    rw [q2] at h
    cases q3 : cSs c body with
    | none => rw [q3] at h; cases h
    | some ib =>
    rw [q3] at h
    cases h
    obtain ⟨wi, p1, w1, p2⟩ := it_ok R O.toXOk (W := W) q1
    exact (ps_for O.pas O.calm p1 (tg_ok O.toXOk q2) (cSs_ok O body q3) p2).weak fun D σ H q => w1 _ _ _ (for_run (gOf_ok X.K g) (by simpa only [evS] using q))
  · rename_i t body p
    cases q1 : cmp 40 c true t with
    | none => rw [q1] at h; cases h
    | some it =>
    rw [q1] at h
    cases q3 : cSs c body with
    | none => rw [q3] at h; cases h
    | some ib =>
    rw [q3] at h
    cases h
    exact (ps_while O.pas (R c X W true _ _ O.toXOk q1).2 (cSs_ok O body q3)).weak fun D σ H q => wh_run (by simpa only [evS] using q)
  · cases h
theorem cSs_ok (O : SOk ca φ k c X W) (sts : List Stmt) {s : S} (h : cSs c sts = some s) : PSs X sts (TSv X.K ca W io (evS io φ s)) := by
  unfold cSs at h
  match sts, h with
  | [], h => cases h; exact pss_nil.weak fun D σ H q => next_run (by simpa only [evS] using q)
  | st :: rest, h =>
    dsimp only at h
    cases q1 : cS c st with
    | none => rw [q1] at h; cases h
    | some a =>
    rw [q1] at h
    cases q2 : cSs c rest with
    | none => rw [q2] at h; cases h
    | some b =>
    rw [q2] at h
    cases h
    exact (pss_cons (cS_ok O st q1) (cSs_ok O rest q2)).weak fun D σ H q => seq_run (by simpa only [evS] using q)
end
end
end PyI

namespace PyI
open PySem PySem.Spec PyProof.Rows L2
/-! ## defs and the levels of calls -/
structure DI where
  x : Str
  ps : List Str
  N : List Str
  io : Bool
  params : Arguments
  body : List Stmt
  scope : Scope
  ir : S
noncomputable def DI.fn (φ : Str → Fn) (d : DI) : Fn := runS d.io d.N.length (evS d.io φ d.ir)
/-- the defs by name, k calls deep -/
noncomputable def Phi (tb : List (Str × DI)) : Nat → Str → Fn
  | 0, _ => fun _ => .no
  | k + 1, x => match tb.lookup x with
    | some d => d.fn (Phi tb k)
    | none => fun _ => .no
theorem Phi_succ (tb : List (Str × DI)) (k : Nat) (x : Str) (d : DI) (h : tb.lookup x = some d) : Phi tb (k + 1) x = d.fn (Phi tb k) := by
  show (match tb.lookup x with
    | some d => d.fn (Phi tb k)
    | none => fun _ => .no) = _
  rw [h]
def DI.chk (T : GT) (d : DI) : Prop := cSs ⟨d.N, d.scope, none, T⟩ d.body = some d.ir
section
variable {ca : Str → Addr} {P : Program} {w : World} {K : PySem.W.Frag} {mg : Str → Option Value} {base : Heap} {T : GT} {φ : Str → Fn} {k : Nat} {f : Addr} {fd : FuncData}
theorem def_ok (d : DI) (F : FunD K d.x d.x d.params d.body d.scope [] [] f fd) (S : FnScope d.N d.ps d.scope) (c : d.chk T) (G : GOk ca T k φ P w K mg base) :
    FnOk P w K mg base (L2.CX P w) (k + 1) f fd d.ps (SpF K ca d.io d.ps.length (d.fn φ)) := by
  refine F.ok S (fun vs H Q E h => SpF.len vs H Q E h) fun cdv A outer s H vs Q E hr h => ?_
  have O : SOk ca φ k ⟨d.N, d.scope, none, T⟩ (cxOf (L2.CX P w) P w K mg base d.N d.x d.scope f cdv A outer s H E) (fun cls d _ H => E cls d H) :=
    { N := rfl, nd := S.nd, sc := rfl, calm := rfl, tk := takes_of rfl rfl rfl rfl, fnl := fun _ _ => .inl rfl, room := hr, glob := G, pas := passes_of rfl, fk := S.kind }
  exact ⟨_, cSs_ok (io := d.io) O d.body c, fn_run h⟩
theorem fn_none {ps : List Str} {io : Bool} : FnOk P w K mg base (L2.CX P w) k f fd ps (SpF K ca io ps.length fun _ => .no) where
  len := fun vs H Q E h => SpF.len vs H Q E h
  run := fun A outer s H args us vs Q E _ _ _ _ h => by
    obtain ⟨_, _, _, _, _, _, _, h⟩ := h
    exact h.elim
/-- what the head tells of the module -/
structure Mo (tb : List (Str × DI)) (T : GT) (P : Program) (w : World) (K : PySem.W.Frag) (mg : Str → Option Value) (base : Heap) : Prop where
  blt : ∀ x, T.blt.contains x = true → mg x = none
  con : ∀ x d, T.con.lookup x = some d → ∃ v u, mg x = some u ∧ RelV v u ∧ ∀ G, Dp K G v d
  fns : ∀ x i, T.fns.lookup x = some i → ∃ d f fd, tb.lookup x = some d ∧ mg x = some (.ref f) ∧ FunD K d.x d.x d.params d.body d.scope [] [] f fd ∧ Binds K fd d.ps [] ∧ FnScope d.N d.ps d.scope ∧ d.chk T ∧ d.io = i.io ∧ d.ps.length = i.n
theorem levels {tb : List (Str × DI)} (M : Mo tb T P w K mg base) : ∀ k, GOk ca T k (Phi tb k) P w K mg base
  | 0 => ⟨M.blt, M.con, fun x i h => by
    obtain ⟨d, f, fd, _, h2, F, B, _, _, e1, e2⟩ := M.fns x i h
    refine ⟨f, fd, d.ps, h2, F.kp, B, ?_⟩
    rw [← e2]
    exact fn_none⟩
  | k + 1 => ⟨M.blt, M.con, fun x i h => by
    obtain ⟨d, f, fd, h1, h2, F, B, S, c, e1, e2⟩ := M.fns x i h
    refine ⟨f, fd, d.ps, h2, F.kp, B, ?_⟩
    rw [Phi_succ tb k x d h1, ← e1, ← e2]
    exact def_ok d F S c (levels M k)⟩
end
end PyI

namespace PyI
open PySem PySem.Spec PyProof.Rows L2
/-! ## a module by names -/
structure Md where
  blts : List Str
  cInt : List (Str × Int)
  cStr : List (Str × Str)
  defs : List DI
  keep : List Nat := []
  tups : List Nat := []
  bor : List Nat := []
def Md.T (m : Md) : GT := ⟨m.blts, m.cInt.map (fun p => (p.1, PyData.int p.2)) ++ m.cStr.map (fun p => (p.1, PyData.str p.2)), (m.defs.map fun d => (d.x, ⟨d.ps.length, d.io⟩)), m.keep, m.tups, m.bor⟩
def Md.tb (m : Md) : List (Str × DI) := m.defs.map fun d => (d.x, d)
def Md.fa (m : Md) : List He.Fa := m.defs.map (fun d => .glo d.x) ++ (m.blts.map .free ++ (m.cInt.map (fun p => .int p.1 p.2) ++ m.cStr.map fun p => .str p.1 p.2))
def DI.toD (d : DI) : He.DefD := ⟨(d.x, none), d.x, d.x, d.params, d.body, d.scope, [], []⟩
def Md.fn (m : Md) : List He.DefD := m.defs.map DI.toD
/-- what is looked at of a def -/
structure DI.Ok (T : GT) (d : DI) : Prop where
  sc : C8.scC d.N d.ps d.scope = true
  chk : d.chk T
  bind : ∀ (kV doc pm : Value) (an : Option Addr) (cdv ct : Value) (us : List Value), us.length = d.ps.length → bindArgs (PySem.W.fnOf d.x d.x d.params d.body d.scope .none kV doc pm an cdv ct) ⟨us, []⟩ = pure (d.ps.zip us)
theorem lookup_map {α β : Type} {g : α → Str × β} : ∀ {l : List α} {x : Str} {b : β}, (l.map g).lookup x = some b → ∃ a ∈ l, g a = (x, b)
  | [], _, _, h => by cases h
  | a :: l, x, b, h => by
    rw [List.map_cons, show g a = ((g a).1, (g a).2) from rfl, List.lookup_cons] at h
    cases q : x == (g a).1 with
    | true =>
      rw [q] at h
      cases h
      have e : x = (g a).1 := eq_of_beq q
      exact ⟨a, by simp, by rw [e]⟩
    | false =>
      rw [q] at h
      obtain ⟨a', h1, h2⟩ := lookup_map h
      exact ⟨a', by simp [h1], h2⟩
theorem lookup_two {α β γ : Type} {k : α → Str} {g : α → β} {g' : α → γ} : ∀ {l : List α} {x : Str} {b : β}, (l.map fun a => (k a, g a)).lookup x = some b → ∃ a ∈ l, k a = x ∧ g a = b ∧ (l.map fun a => (k a, g' a)).lookup x = some (g' a)
  | [], _, _, h => by cases h
  | a :: l, x, b, h => by
    rw [List.map_cons, List.lookup_cons] at h
    rw [List.map_cons, List.lookup_cons]
    cases q : x == k a with
    | true =>
      rw [q] at h
      cases h
      exact ⟨a, by simp, (eq_of_beq q).symm, rfl, rfl⟩
    | false =>
      rw [q] at h
      obtain ⟨a', h1, h2, h3, h4⟩ := lookup_two (g' := g') h
      exact ⟨a', by simp [h1], h2, h3, h4⟩
theorem lookup_app {β : Type} {x : Str} {b : β} : ∀ {l l' : List (Str × β)}, (l ++ l').lookup x = some b → l.lookup x = some b ∨ l'.lookup x = some b
  | [], _, h => .inr h
  | (y, c) :: l, l', h => by
    rw [List.cons_append, List.lookup_cons] at h
    rw [List.lookup_cons]
    cases q : x == y with
    | true => rw [q] at h; exact .inl h
    | false => rw [q] at h; exact lookup_app h
section
variable {P : Program} {w : World} {K : PySem.W.Frag} {mg : Str → Option Value} {h base : Heap}
theorem says_fact {fa : List He.Fa} {fn : List He.DefD} (c : He.SaysD fa fn K) {f : He.Fa} (hf : f ∈ fa) : f.ok K = true := by
  obtain ⟨i, hi⟩ := List.mem_iff_getElem?.mp hf
  exact c.fact i hi
theorem mo_of (m : Md) (X : K.In h) (G : h.Ns mainGlobals mg) (c : He.SaysD m.fa m.fn K) (ok : ∀ d ∈ m.defs, d.Ok m.T) : Mo m.tb m.T P w K mg base where
  blt := fun x hx => He.free_ok X G (says_fact c (f := .free x) (by
    have hx : x ∈ m.blts := by simpa [Md.T] using hx
    simp [Md.fa, hx]))
  con := fun x d hx => by
    rcases lookup_app hx with hx | hx
    · obtain ⟨⟨y, i⟩, h1, h2⟩ := lookup_map hx
      cases h2
      obtain ⟨t, e⟩ := He.int_ok X G (says_fact c (f := .int y i) (by simp [Md.fa, h1]))
      exact ⟨.int i, _, e, ⟨t, rfl⟩, fun _ => .int _⟩
    · obtain ⟨⟨y, i⟩, h1, h2⟩ := lookup_map hx
      cases h2
      obtain ⟨t, e⟩ := He.str_ok X G (says_fact c (f := .str y i) (by simp [Md.fa, h1]))
      exact ⟨.str i, _, e, ⟨t, rfl⟩, fun _ => .str _⟩
  fns := fun x i hx => by
    obtain ⟨d, h1, h2, h3, h4⟩ := lookup_two (g' := fun d => d) hx
    subst h2 h3
    have o := ok d h1
    obtain ⟨j, hj⟩ := List.mem_iff_getElem?.mp h1
    obtain ⟨fd, F⟩ := c.def_ j (d := d.toD) (by simp [Md.fn, hj])
    have g := He.glo_ok X G (says_fact c (f := .glo d.x) (by simp only [Md.fa, List.mem_append, List.mem_map]; exact .inl ⟨d, h1, rfl⟩))
    refine ⟨d, _, fd, h4, g, F, ?_, C8.fnScope_by o.sc, o.chk, rfl, rfl⟩
    exact FunD.bindsN (ps := d.ps) F fun kV doc pm an cdv ct us hl => o.bind kV doc pm an cdv ct us hl
end
end PyI

namespace PyI
open PySem PySem.Spec PyProof.Rows L2
/-! ## the end: the law's def by what it comes to -/
theorem walk_P {l : PySem.W.OpenLaw} {n k : Nat} {q : Program} {loose : List Str} {XP : (Str → Option Value) → Heap → Prop} {YP : World → Heap → Prop} {d : DefRec} {CX : World → CXT} {x : Str}
    (hn : l.most = some n) (hn2 : n ≤ sizeLine) (hdf : d.params.defaults = []) (hr : Room k callerA)
    (F : ∀ (w : World) (mg : Str → Option Value) (fa : Addr) (h : Heap), YP w h → h.Ns mainGlobals mg → mg d.name = some (.ref fa) →
      ∃ (K : PySem.W.Frag) (fd : FuncData) (sp : Sp), K.In h ∧ (∀ (s : Shared) (u : Value), BindsTo s fd ⟨[u], []⟩ [(x, u)]) ∧
        (∀ (H : Hp) (a : Addr) (ns : List Int), ns.length ≤ n → (∀ z ∈ ns, Builtin.Int.intBits z ≤ 1048576) → SqL K H a (ns.map V.int) → sp [.ref a] H (fun v _ => v = .bl true) fun _ _ _ => False) ∧
        ∀ base : Heap, K.In base → base.Ns mainGlobals mg → FnOk l.prog w K mg base (CX w) k fa fd [x] sp)
    (hCX : ∀ (w : World) (H : Hp) (s : Shared) (e : Value) (s' : Shared), CX w [] H s (fun _ _ _ => False) e s' → False) :
    PySem.W.WalkO q loose XP YP l.row.toRowW d [] (fun f vs => PySem.call f vs) := by
  refine Att.attach_callB hn hdf fun w s₀ s₁ mg mb fa o pm cd doc a vs ns G Y ho hd hcd hmg hobj hints hlen hbits hg => ?_
  obtain ⟨K, fd, sp, KX, hb, hsp, hF⟩ := F w mg fa _ Y G.T.g hmg
  exact law_call KX G.T.g G.T.b G.T.builtins G.T.nolimit hg hobj hints (Nat.le_trans hlen hn2) hr hF hb (fun H hO hS => hsp H a ns hlen hbits hS) fun H e s' => hCX w H s₁ e s'
theorem ints_dp {K : PySem.W.Frag} {G : Hp} : ∀ ns : List Int, DpAll K G (ns.map V.int) (ns.map PyData.int)
  | [] => .nil
  | n :: ns => .cons (.int n) (ints_dp ns)
theorem cx_no {P : Program} {w : World} {H : Hp} {s : Shared} {e : Value} {s' : Shared} (h : L2.CX P w [] H s (fun _ _ _ => False) e s') : False := by
  obtain ⟨_, _, _, _, _, _, _, _, _, _, _, _, z⟩ := h
  exact z
theorem level_d {ca : Str → Addr} {tb : List (Str × DI)} {T : GT} {P : Program} {w : World} {K : PySem.W.Frag} {mg : Str → Option Value} {base : Heap} {x : Str} {d : DI} {f : Addr} {fd : FuncData} (M : Mo tb T P w K mg base) (h1 : tb.lookup x = some d) (F : FunD K d.x d.x d.params d.body d.scope [] [] f fd) (S : FnScope d.N d.ps d.scope) (c : d.chk T) :
    ∀ k, FnOk P w K mg base (L2.CX P w) k f fd d.ps (SpF K ca d.io d.ps.length (Phi tb k x))
  | 0 => fn_none
  | k + 1 => by
    rw [Phi_succ tb k x d h1]
    exact def_ok d F S c (levels M k)
/-- script: the whole numbers of the law's argument -/
def Law (m : Md) (k n : Nat) (x : Str) : Prop := ∀ ns : List Int, ns.length ≤ n → (∀ z ∈ ns, Builtin.Int.intBits z ≤ 1048576) → ∃ b, Phi m.tb k x [.val (.list (ns.map PyData.int))] = .ok (.val (.bool true)) b
theorem law_end {l : PySem.W.OpenLaw} {n k : Nat} {q : Program} {loose : List Str} {XP : (Str → Option Value) → Heap → Prop} {r : DefRec} {m : Md} {d : DI} {kk : Nat} {x : Str}
    (hn : l.most = some n) (hn2 : n ≤ sizeLine) (hdf : r.params.defaults = []) (hr : Room k callerA) (hname : r.name = d.x) (hd : m.tb.lookup d.x = some d) (hT : m.T.fns.lookup d.x = some ⟨1, false⟩) (hps : d.ps = [x]) (hmem : d ∈ m.defs) (ok : ∀ d ∈ m.defs, d.Ok m.T)
    (law : Law m k n d.x) :
    PySem.W.WalkO q loose XP (He.hookD kk m.fa m.fn).says l.row.toRowW r [] (fun f vs => PySem.call f vs) := by
  refine walk_P (CX := fun w => L2.CX l.prog w) (x := x) hn hn2 hdf hr (fun w mg fa h Y G hmg => ?_) fun w H s e s' c => cx_no c
  obtain ⟨K, KX, c⟩ := Y
  have M : ∀ base : Heap, Mo m.tb m.T l.prog w K mg base := fun base => mo_of m KX G c ok
  obtain ⟨d', f, fd, h1, h2, F, B, S, ck, e1, e2⟩ := (M h).fns d.x _ hT
  have h1' := h1
  rw [hd] at h1
  cases h1
  rw [hname] at hmg
  rw [h2] at hmg
  cases hmg
  refine ⟨K, fd, SpF K (fun _ => 0) false 1 (Phi m.tb k d.x), KX, fun s u => ?_, fun H a ns hl hb hS => ?_, fun base hK hN => ?_⟩
  · have o := (ok d hmem).bind
    rw [hps] at o
    exact FunD.bindsA (ps := [x]) F (fun kV doc pm an cdv ct us hl => o kV doc pm an cdv ct us hl) s [u] rfl
  · refine ⟨rfl, H, [], [.val (.list (ns.map .int))], .cons (.val (.lst hS (ints_dp ns))) .nil, ⟨fun _ _ e => e, by simp, .nil⟩, fun _ => rfl, ?_⟩
    obtain ⟨b, e⟩ := law ns hl hb
    rw [e]
    intro v G' H' av ab rs _ _ _ _
    cases rs with
    | val hd => cases hd; rfl
  · have z := level_d (ca := fun _ => 0) (M base) h1' F S ck k
    rw [hps, show d.io = false from e1] at z
    exact z
end PyI

namespace PyI
open PySem PySem.Spec PyProof.Rows L2
/-! ## the plain side: what simp may unfold -/
section
variable {φ : Str → Fn} {io : Bool} {Γ : Env}
@[simp] theorem evE_v (i : Nat) : evE φ (.v i) = cV i := by simp only [evE]
@[simp] theorem evE_c (d : PyData) : evE φ (.c d) = cC d := by simp only [evE]
@[simp] theorem evE_prim (p : Prm) (os : List O) : evE φ (.prim p os) = primF (den p) (evOs φ os) := by simp only [evE]
@[simp] theorem evE_call (f : Str) (es : List E) : evE φ (.call f es) = callF (φ f) (evEs φ es) := by simp only [evE]
@[simp] theorem evE_callIO (f : Str) (i : Nat) (es : List E) : evE φ (.callIO f i es) = callIO (φ f) i (evEs φ es) := by simp only [evE]
@[simp] theorem evE_callK (f : Str) (is : List Nat) : evE φ (.callK f is) = callK (φ f) is := by simp only [evE]
@[simp] theorem evE_callB (f : Str) (os : List O) : evE φ (.callB f os) = callBF (φ f) (evOs φ os) := by simp only [evE]
@[simp] theorem evE_and (a b : E) : evE φ (.and a b) = andF (evE φ a) (evE φ b) := by simp only [evE]
@[simp] theorem evE_or (a b : E) : evE φ (.or a b) = orF (evE φ a) (evE φ b) := by simp only [evE]
@[simp] theorem evE_not (a : E) : evE φ (.not a) = notF (evE φ a) := by simp only [evE]
@[simp] theorem evE_ite (t a b : E) : evE φ (.ite t a b) = iteF (evE φ t) (evE φ a) (evE φ b) := by simp only [evE]
@[simp] theorem evE_chain (p q : Prm) (a b d : E) : evE φ (.chain p q a b d) = chF (den p) (den q) (evE φ a) (evE φ b) (evE φ d) := by simp only [evE]
@[simp] theorem evE_comp (it : I) (tg : Tg) (t : Option E) (e : E) (own : List Nat) : evE φ (.comp it tg t e own) = compF (evI φ it) tg (evT φ t) (evE φ e) own := by simp only [evE]
@[simp] theorem evE_mut (m : Mm) (i : Nat) (es : List E) : evE φ (.mut m i es) = mutF (mden m) i (evEs φ es) := by simp only [evE]
@[simp] theorem evE_meth (p : Prm) (o : O) (es : List E) : evE φ (.meth p o es) = methF (mkOf p) (den p) (evO φ o) (evEs φ es) := by simp only [evE]
@[simp] theorem evT_none : evT φ none = none := by simp only [evT]
@[simp] theorem evT_some (e : E) : evT φ (some e) = some (evE φ e) := by simp only [evT]
@[simp] theorem evEs_nil : evEs φ [] = [] := by simp only [evEs]
@[simp] theorem evEs_cons (e : E) (es : List E) : evEs φ (e :: es) = evE φ e :: evEs φ es := by simp only [evEs]
@[simp] theorem evOs_nil : evOs φ [] = [] := by simp only [evOs]
@[simp] theorem evOs_cons (e : O) (es : List O) : evOs φ (e :: es) = evO φ e :: evOs φ es := by simp only [evOs]
@[simp] theorem evO_pl (i : Nat) : evO φ (.pl i) = .pl i := by simp only [evO]
@[simp] theorem evO_ex (e : E) : evO φ (.ex e) = .ex (evE φ e) := by simp only [evO]
@[simp] theorem evI_seq (e : E) : evI φ (.seq e) = seqI (evE φ e) := by simp only [evI]
@[simp] theorem evI_rng (es : List E) : evI φ (.rng es) = rngI (evEs φ es) := by simp only [evI]
@[simp] theorem evI_enm (e : E) : evI φ (.enm e) = enmI (evE φ e) := by simp only [evI]
@[simp] theorem evI_zip (a b : E) : evI φ (.zip a b) = zipI (evE φ a) (evE φ b) := by simp only [evI]
@[simp] theorem bind_ok {α β : Type} (a : α) (Γ : Env) (k : α → Env → Res β) : (Res.ok a Γ).bind k = k a Γ := rfl
@[simp] theorem bind_no {α β : Type} (k : α → Env → Res β) : (Res.no : Res α).bind k = .no := rfl
@[simp] theorem fl_ok {α : Type} (a : α) (Γ : Env) (k : α → Env → Fl) : (Res.ok a Γ).fl k = k a Γ := rfl
@[simp] theorem fl_no {α : Type} (k : α → Env → Fl) : (Res.no : Res α).fl k = .no := rfl
@[simp] theorem fz_val (d : PyData) : (Sl.val d).fz = some d := by simp only [Sl.fz]
@[simp] theorem fz_lst (d : List PyData) : (Sl.lst d).fz = some (.list d) := by simp only [Sl.fz]
@[simp] theorem pk_val (d : PyData) : (Sl.val d).pk = some d := rfl
@[simp] theorem pk_lst (d : List PyData) : (Sl.lst d).pk = some (.list d) := rfl
@[simp] theorem bit_b (b : Bool) : (Sl.val (.bool b)).bit = some b := rfl
@[simp] theorem bit_vB (b : Bool) : (vB b).bit = some b := rfl
@[simp] theorem owned_lst (d : List PyData) : (Sl.lst d).owned = true := rfl
@[simp] theorem cC_ap (d : PyData) : cC d Γ = .ok (.val d) Γ := rfl
theorem cV_val {i : Nat} {d : PyData} (h : Γ[i]? = some (.val d)) : cV i Γ = .ok (.val d) Γ := by
  unfold cV
  rw [h]
  simp only [fz_val]
  rw [set_same h]
@[simp] theorem opsF_nil : opsF [] Γ = .ok [] Γ := rfl
@[simp] theorem opsF_ex (f : F) (r : List Opd) : opsF (.ex f :: r) Γ = (f Γ).bind fun s Γ1 => match s.fz with
    | some d => (opsF r Γ1).bind fun l Γ2 => .ok (.inr d :: l) Γ2
    | none => .no := rfl
@[simp] theorem opsF_pl (i : Nat) (r : List Opd) : opsF (.pl i :: r) Γ = match Γ[i]? with
    | some s => (match s.pk with
      | some _ => (opsF r Γ).bind fun l Γ' => .ok (.inl i :: l) Γ'
      | none => .no)
    | none => .no := rfl
@[simp] theorem rslv_nil : rslv Γ [] = some [] := rfl
@[simp] theorem rslv_r (d : PyData) (r : List (Nat ⊕ PyData)) : rslv Γ (.inr d :: r) = (rslv Γ r).map (d :: ·) := rfl
@[simp] theorem rslv_l (i : Nat) (r : List (Nat ⊕ PyData)) : rslv Γ (.inl i :: r) = match Γ[i]? with
    | some s => (match s.pk with
      | some d => (rslv Γ r).map (d :: ·)
      | none => none)
    | none => none := rfl
@[simp] theorem tst_ok (s : Sl) (k : Bool → Env → Res Sl) : tstF (.ok s Γ) k = match s.bit with
    | some b => k b Γ
    | none => .no := rfl
/-- what an or, an and come to -/
theorem or_ok {a b : F} {x : Bool} {Γ1 : Env} (h : a Γ = .ok (vB x) Γ1) : orF a b Γ = if x = true then .ok (vB true) Γ1 else b Γ1 := by
  unfold orF; rw [h]; cases x <;> rfl
theorem and_ok {a b : F} {x : Bool} {Γ1 : Env} (h : a Γ = .ok (vB x) Γ1) : andF a b Γ = if x = true then b Γ1 else .ok (vB false) Γ1 := by
  unfold andF; rw [h]; cases x <;> rfl
theorem not_ok {a : F} {x : Bool} {Γ1 : Env} (h : a Γ = .ok (vB x) Γ1) : notF a Γ = .ok (vB !x) Γ1 := by
  unfold notF; rw [h]; rfl
theorem if_ok {c : F} {x y : SF} {b : Bool} {Γ1 : Env} (h : c Γ = .ok (vB b) Γ1) : ifS c x y Γ = if b = true then x Γ1 else y Γ1 := by
  unfold ifS; rw [h]; cases b <;> rfl
theorem chain_ok {p q : List PyData → Option Sl} {a b c : F} {x y z : PyData} {Γ1 Γ2 : Env} {u w : Bool} (ha : a Γ = .ok (.val x) Γ1) (hb : b Γ1 = .ok (.val y) Γ2) (hc : c Γ2 = .ok (.val z) Γ2) (hp : p [x, y] = some (vB u)) (hq : q [y, z] = some (vB w)) :
    chF p q a b c Γ = .ok (vB (u && w)) Γ2 := by
  have hp' : p [x, y] = some (.val (.bool u)) := hp
  have hq' : q [y, z] = some (.val (.bool w)) := hq
  unfold chF
  simp only [opsF_ex, ha, hb, bind_ok, fz_val, opsF_nil, rslv_r, rslv_nil, Option.map]
  rw [hp']
  cases u with
  | false => rfl
  | true => simp only [hc, bind_ok, fz_val, hq']; simp
theorem ret_ok {f : F} {s : Sl} {Γ1 : Env} (h : f Γ = .ok s Γ1) : retS f Γ = .ret s Γ1 := by unfold retS; rw [h]; rfl
theorem set_ok {f : F} {s : Sl} {Γ1 : Env} {i : Nat} (h : f Γ = .ok s Γ1) : setS false i f Γ = .next (Γ1.set i s) := by unfold setS; simp [h]
theorem seq_next {x y : SF} {Γ1 : Env} (h : x Γ = .next Γ1) : seqS x y Γ = y Γ1 := by unfold seqS; rw [h]
theorem seq_ret {x y : SF} {s : Sl} {Γ1 : Env} (h : x Γ = .ret s Γ1) : seqS x y Γ = .ret s Γ1 := by unfold seqS; rw [h]
end
/-! comprehensions that leave the rest as it is -/
theorem unE_len (own : List Nat) : ∀ (k : Nat) (Γ : Env), (unE own k Γ).length = Γ.length
  | _, [] => rfl
  | k, s :: Γ => by simp [unE, unE_len own (k + 1) Γ]
theorem unE_idem (own : List Nat) : ∀ (k : Nat) (Γ : Env), unE own k (unE own k Γ) = unE own k Γ
  | _, [] => rfl
  | k, s :: Γ => by
    simp only [unE, unE_idem own (k + 1) Γ]
    split <;> rfl
theorem mixE_same (own : List Nat) : ∀ (k : Nat) (Γ Γ' : Env), unE own k Γ' = unE own k Γ → mixE own k Γ Γ' = Γ
  | _, [], Γ', h => by cases Γ' <;> rfl
  | k, s :: Γ, [], h => by cases h
  | k, s :: Γ, s' :: Γ', h => by
    simp only [unE, List.cons.injEq] at h
    simp only [mixE]
    rw [mixE_same own (k + 1) Γ Γ' h.2]
    by_cases c : own.contains k = true
    · rw [if_pos c]
    · rw [if_neg c]
      have h1 := h.1
      rw [if_neg c, if_neg c] at h1
      rw [h1]
theorem lcT_un {tg : Tg} {t : Option F} {e : F} {own : List Nat} {d : PyData} {Γ Γ' : Env} (h : unE own 0 Γ' = unE own 0 Γ) : lcT tg t e own d Γ' = lcT tg t e own d Γ := by
  unfold lcT
  rw [h]
theorem lcL_pure {tg : Tg} {t : Option F} {e : F} {own : List Nat} {Γ : Env} {g : PyData → Option PyData} : ∀ {ds : List PyData} {Γ1 : Env}, unE own 0 Γ1 = unE own 0 Γ → (∀ d ∈ ds, ∃ Γ2, lcT tg t e own d Γ = .ok (g d) Γ2 ∧ unE own 0 Γ2 = unE own 0 Γ) →
    ∃ Γ2, lcL (lcT tg t e own) ds Γ1 = .ok (ds.flatMap fun d => (g d).toList) Γ2 ∧ unE own 0 Γ2 = unE own 0 Γ
  | [], Γ1, h1, _ => ⟨Γ1, rfl, h1⟩
  | d :: ds, Γ1, h1, h => by
    obtain ⟨Γ2, e1, e2⟩ := h d (by simp)
    obtain ⟨Γ3, e3, e4⟩ := lcL_pure (ds := ds) (Γ1 := Γ2) e2 fun d' hd => h d' (by simp [hd])
    refine ⟨Γ3, ?_, e4⟩
    unfold lcL
    rw [lcT_un h1, e1]
    dsimp only
    rw [e3]
    rfl
/-- [e for .. in it if t], the rest stays -/
theorem comp_pure {it : IF} {tg : Tg} {t : Option F} {e : F} {own : List Nat} {Γ : Env} {ds : List PyData} {g : PyData → Option PyData} (hi : it Γ = .ok ds Γ) (hd : datE own 0 Γ = true) (h : ∀ d ∈ ds, ∃ Γ2, lcT tg t e own d Γ = .ok (g d) Γ2 ∧ unE own 0 Γ2 = unE own 0 Γ) :
    compF it tg t e own Γ = .ok (.lst (ds.flatMap fun d => (g d).toList)) Γ := by
  obtain ⟨Γ2, e1, e2⟩ := lcL_pure (Γ1 := Γ) rfl h
  unfold compF
  rw [hi]
  simp only [bind_ok]
  rw [hd, e1]
  dsimp only
  rw [mixE_same own 0 Γ Γ2 e2]
/-- .. without a test -/
theorem comp_map {it : IF} {tg : Tg} {e : F} {own : List Nat} {Γ : Env} {ds : List PyData} {g : PyData → PyData} (hi : it Γ = .ok ds Γ) (hd : datE own 0 Γ = true) (h : ∀ d ∈ ds, ∃ Γ2, lcT tg none e own d Γ = .ok (some (g d)) Γ2 ∧ unE own 0 Γ2 = unE own 0 Γ) :
    compF it tg none e own Γ = .ok (.lst (ds.map g)) Γ := by
  rw [comp_pure (g := fun d => some (g d)) hi hd h]
  have aux : ∀ l : List PyData, (l.flatMap fun d => (some (g d)).toList) = l.map g := fun l => by
    induction l with
    | nil => rfl
    | cons d l ih => rw [List.flatMap_cons, ih]; rfl
  rw [aux]
/-- a walk with an invariant -/
theorem forL_inv {tg : Tg} {b : SF} (I : Nat → Env → Prop) : ∀ {ds : List PyData} {j : Nat} {Γ : Env}, I j Γ → (∀ i d Γ, ds[i]? = some d → I (j + i) Γ → ∃ Γ1 Γ2, setTg tg d Γ = some Γ1 ∧ (b Γ1 = .next Γ2 ∨ b Γ1 = .cont Γ2) ∧ I (j + i + 1) Γ2) →
    ∃ Γ2, forL tg b ds Γ = .next Γ2 ∧ I (j + ds.length) Γ2
  | [], j, Γ, h, _ => ⟨Γ, rfl, h⟩
  | d :: ds, j, Γ, h, st => by
    obtain ⟨Γ1, Γ2, e1, e2, h2⟩ := st 0 d Γ rfl h
    obtain ⟨Γ3, e3, h3⟩ := forL_inv I (ds := ds) (j := j + 1) (Γ := Γ2) h2 fun i d' Γ' e h' => by
      obtain ⟨Γa, Γb, q1, q2, q3⟩ := st (i + 1) d' Γ' (by simpa using e) (by rw [show j + (i + 1) = j + 1 + i by omega]; exact h')
      exact ⟨Γa, Γb, q1, q2, by rw [show j + 1 + i + 1 = j + (i + 1) + 1 by omega]; exact q3⟩
    refine ⟨Γ3, ?_, by rw [List.length_cons, show j + (ds.length + 1) = j + 1 + ds.length by omega]; exact h3⟩
    unfold forL
    rw [e1]
    rcases e2 with e2 | e2
    · simp only [e2]; exact e3
    · simp only [e2]; exact e3
end PyI

namespace PyI
open PySem PySem.Spec PyProof.Rows L2
/-- a comprehension that changes the rest, by an invariant of turn, what is gathered, slots -/
theorem lcL_inv {step : PyData → Env → Res (Option PyData)} (I : Nat → List PyData → Env → Prop) : ∀ {ds : List PyData} {j : Nat} {acc : List PyData} {Γ : Env}, I j acc Γ →
    (∀ i d acc Γ, ds[i]? = some d → I (j + i) acc Γ → ∃ o Γ2, step d Γ = .ok o Γ2 ∧ I (j + i + 1) (acc ++ o.toList) Γ2) → ∃ l Γ2, lcL step ds Γ = .ok l Γ2 ∧ I (j + ds.length) (acc ++ l) Γ2
  | [], j, acc, Γ, h, _ => ⟨[], Γ, rfl, by rw [List.append_nil]; exact h⟩
  | d :: ds, j, acc, Γ, h, st => by
    obtain ⟨o, Γ2, e1, h1⟩ := st 0 d acc Γ rfl h
    obtain ⟨l, Γ3, e2, h2⟩ := lcL_inv I (ds := ds) (j := j + 1) (acc := acc ++ o.toList) (Γ := Γ2) h1 fun i d' acc' Γ' e h' => by
      obtain ⟨o', Γ4, q1, q2⟩ := st (i + 1) d' acc' Γ' (by simpa using e) (by rw [show j + (i + 1) = j + 1 + i by omega]; exact h')
      exact ⟨o', Γ4, q1, by rw [show j + 1 + i + 1 = j + (i + 1) + 1 by omega]; exact q2⟩
    refine ⟨o.toList ++ l, Γ3, ?_, by rw [List.length_cons, show j + (ds.length + 1) = j + 1 + ds.length by omega, ← List.append_assoc]; exact h2⟩
    unfold lcL
    rw [e1]
    dsimp only
    rw [e2]
theorem comp_inv {it : IF} {tg : Tg} {t : Option F} {e : F} {own : List Nat} {Γ Γ1 : Env} {ds : List PyData} (I : Nat → List PyData → Env → Prop) (hi : it Γ = .ok ds Γ1) (hd : datE own 0 Γ1 = true) (h0 : I 0 [] Γ1)
    (st : ∀ i d acc Γ, ds[i]? = some d → I i acc Γ → ∃ o Γ2, lcT tg t e own d Γ = .ok o Γ2 ∧ I (i + 1) (acc ++ o.toList) Γ2) : ∃ l Γ2, compF it tg t e own Γ = .ok (.lst l) (mixE own 0 Γ1 Γ2) ∧ I ds.length l Γ2 := by
  obtain ⟨l, Γ2, e1, h2⟩ := lcL_inv I (j := 0) h0 fun i d acc Γ e h => by
    rw [Nat.zero_add] at h ⊢
    exact st i d acc Γ e h
  refine ⟨l, Γ2, ?_, by simpa using h2⟩
  unfold compF
  rw [hi]
  simp only [bind_ok]
  rw [hd, e1]
theorem rng_get {lo : Int} {n i : Nat} {d : PyData} (h : (rngOf lo n)[i]? = some d) : i < n ∧ d = .int (lo + i) := by
  unfold rngOf at h
  rw [List.getElem?_map] at h
  by_cases hi : i < n
  · rw [List.getElem?_range hi] at h
    cases h
    exact ⟨hi, rfl⟩
  · rw [List.getElem?_eq_none (by simp; omega)] at h; cases h
@[simp] theorem rng_len (lo : Int) (n : Nat) : (rngOf lo n).length = n := by simp [rngOf]
end PyI

namespace PyI
open PySem PySem.Spec PyProof.Rows L2
/-! ## what a run comes to, by what is wanted behind it; what comes behind stands as data, so that simp steps forward alone -/
abbrev QK := Sl → Env → Prop
abbrev XK := Str → PyData → Env → Prop
abbrev LK := List (Nat ⊕ PyData) → Env → Prop
abbrev IK := List PyData → Env → Prop
def WC (r : CRes) (q : Sl → Sl → Prop) (x : Str → PyData → Sl → Prop) : Prop := match r with
  | .ok s b => q s b
  | .ex c d b => x c d b
  | .no => False
def WR {α : Type} (r : Res α) (q : α → Env → Prop) (x : XK) : Prop := match r with
  | .ok s b => q s b
  | .ex c d b => x c d b
  | .no => False
structure Po where
  nx : Env → Prop
  br : Env → Prop
  co : Env → Prop
  rt : QK
  ex : XK
def WF (r : Fl) (p : Po) : Prop := match r with
  | .next Γ => p.nx Γ
  | .brk Γ => p.br Γ
  | .cont Γ => p.co Γ
  | .ret s Γ => p.rt s Γ
  | .ex c d Γ => p.ex c d Γ
  | .no => False
def fx1 : Str → PyData → Sl → Prop := fun _ _ _ => False
def fx2 : XK := fun _ _ _ => False
/-- a def that hands back -/
abbrev TC (r : CRes) (q : Sl → Sl → Prop) : Prop := WC r q fx1
section
variable {α β : Type} {Γ : Env}
theorem wr_bind {q : α → Env → Prop} {x : XK} (r : Res β) (k : β → Env → Res α) : WR (r.bind k) q x = WR r (fun a Γ => WR (k a Γ) q x) x := by cases r <;> rfl
theorem wf_fl {p : Po} (r : Res β) (k : β → Env → Fl) : WF (r.fl k) p = WR r (fun a Γ => WF (k a Γ) p) p.ex := by cases r <;> rfl
theorem wr_mono {r : Res α} {q q' : α → Env → Prop} {x : XK} (h : WR r q x) (m : ∀ a Γ, q a Γ → q' a Γ) : WR r q' x := by
  cases r with
  | ok a Γ => exact m a Γ h
  | ex c d Γ => exact h
  | no => exact h
theorem wc_mono {r : CRes} {q q' : Sl → Sl → Prop} {x : Str → PyData → Sl → Prop} (h : TC r q) (m : ∀ a b, q a b → q' a b) : WC r q' x := by
  cases r with
  | ok a Γ => exact m a Γ h
  | ex c d Γ => exact h.elim
  | no => exact h
theorem wf_mono {r : Fl} {p p' : Po} (h : WF r p) (n : ∀ Γ, p.nx Γ → p'.nx Γ) (b : ∀ Γ, p.br Γ → p'.br Γ) (c : ∀ Γ, p.co Γ → p'.co Γ) (t : ∀ s Γ, p.rt s Γ → p'.rt s Γ) (e : ∀ c d Γ, p.ex c d Γ → p'.ex c d Γ) : WF r p' := by
  cases r with
  | next _ => exact n _ h
  | brk _ => exact b _ h
  | cont _ => exact c _ h
  | ret _ _ => exact t _ _ h
  | ex _ _ _ => exact e _ _ _ h
  | no => exact h
end
def WE (φ : Str → Fn) (e : E) (Γ : Env) (q : QK) (x : XK) : Prop := WR (evE φ e Γ) q x
def WO (φ : Str → Fn) (os : List O) (Γ : Env) (k : LK) (x : XK) : Prop := WR (opsF (evOs φ os) Γ) k x
def WEs (φ : Str → Fn) (es : List E) (Γ : Env) (k : LK) (x : XK) : Prop := WR (opsF ((evEs φ es).map .ex) Γ) k x
def WI (φ : Str → Fn) (it : I) (Γ : Env) (k : IK) (x : XK) : Prop := WR (evI φ it Γ) k x
def WS (io : Bool) (φ : Str → Fn) (s : S) (Γ : Env) (p : Po) : Prop := WF (evS io φ s Γ) p
/-! what comes behind -/
def kCons (a : Nat ⊕ PyData) (k : LK) : LK := fun l Γ => k (a :: l) Γ
def kOp (φ : Str → Fn) (r : List O) (k : LK) (x : XK) : QK := fun s Γ1 => match s.fz with
  | some d => WO φ r Γ1 (kCons (.inr d) k) x
  | none => False
def kEs (φ : Str → Fn) (r : List E) (k : LK) (x : XK) : QK := fun s Γ1 => match s.fz with
  | some d => WEs φ r Γ1 (kCons (.inr d) k) x
  | none => False
def kVal (o : Option Sl) (q : QK) (Γ : Env) : Prop := match o with
  | some s => q s Γ
  | none => False
def kPrim (p : Prm) (q : QK) : LK := fun l Γ' => match rslv Γ' l with
  | some ds => kVal (den p ds) q Γ'
  | none => False
def kOk (q : QK) (Γ' : Env) : Sl → Sl → Prop := fun s _ => q s Γ'
def kEx (x : XK) (Γ' : Env) : Str → PyData → Sl → Prop := fun c d _ => x c d Γ'
def kCall (f : Fn) (q : QK) (x : XK) : LK := fun l Γ' => match rslv Γ' l with
  | some ds => WC (f (ds.map .val)) (kOk q Γ') (kEx x Γ')
  | none => False
def kOkI (i : Nat) (q : QK) (Γ' : Env) : Sl → Sl → Prop := fun s b => q s (Γ'.set i b)
def kExI (i : Nat) (x : XK) (Γ' : Env) : Str → PyData → Sl → Prop := fun c d b => x c d (Γ'.set i b)
def kIO (f : Fn) (i : Nat) (q : QK) (x : XK) : LK := fun l Γ' => match rslv Γ' l, Γ'[i]? with
  | some ds, some s0 => s0.owned = true ∧ WC (f (s0 :: ds.map .val)) (kOkI i q Γ') (kExI i x Γ')
  | _, _ => False
def kAnd (φ : Str → Fn) (b : E) (q : QK) (x : XK) : QK := fun s Γ1 => match s.bit with
  | some true => WE φ b Γ1 q x
  | some false => q (vB false) Γ1
  | none => False
def kOr (φ : Str → Fn) (b : E) (q : QK) (x : XK) : QK := fun s Γ1 => match s.bit with
  | some true => q (vB true) Γ1
  | some false => WE φ b Γ1 q x
  | none => False
def kNot (q : QK) : QK := fun s Γ1 => match s.bit with
  | some b => q (vB !b) Γ1
  | none => False
def kIte (φ : Str → Fn) (a b : E) (q : QK) (x : XK) : QK := fun s Γ1 => match s.bit with
  | some true => WE φ a Γ1 q x
  | some false => WE φ b Γ1 q x
  | none => False
def kCh2 (p : Prm) (y : PyData) (q : QK) : QK := fun s Γ2 => match s.fz with
  | some z => (match den p [y, z] with
    | some (.val (.bool k)) => q (vB k) Γ2
    | _ => False)
  | none => False
def kCh1 (φ : Str → Fn) (p : Prm) (y : PyData) (e : E) (q : QK) (x : XK) (o : Option Sl) (Γ1 : Env) : Prop := match o with
  | some (.val (.bool true)) => WE φ e Γ1 (kCh2 p y q) x
  | some (.val (.bool false)) => q (vB false) Γ1
  | _ => False
def kCh (φ : Str → Fn) (p p2 : Prm) (e : E) (q : QK) (x : XK) : LK := fun l Γ1 => match rslv Γ1 l with
  | some [a, b] => kCh1 φ p2 b e q x (den p [a, b]) Γ1
  | _ => False
def kComp (φ : Str → Fn) (tg : Tg) (t : Option E) (e : E) (own : List Nat) (q : QK) (x : XK) : IK := fun ds Γ1 => WR (match datE own 0 Γ1, lcL (lcT tg (evT φ t) (evE φ e) own) ds Γ1 with
  | true, .ok l Γ2 => .ok (.lst l) (mixE own 0 Γ1 Γ2)
  | _, _ => .no) q x
def kMut (m : Mm) (i : Nat) (q : QK) : LK := fun l Γ' => match rslv Γ' l, Γ'[i]? with
  | some ds, some (.lst xs) => (match mden m xs ds with
    | some (d, ys) => q (.val d) (Γ'.set i (.lst ys))
    | none => False)
  | _, _ => False
def kMeth (p : Prm) (a : Nat ⊕ PyData) (q : QK) : LK := fun l Γ' => match rslv Γ' (a :: l) with
  | some ds => kVal (den p ds) q Γ'
  | none => False
def kMethE (φ : Str → Fn) (p : Prm) (es : List E) (q : QK) (x : XK) : QK := fun s Γ1 => match s.fz with
  | some d => kindOk (mkOf p) d = true ∧ WEs φ es Γ1 (kMeth p (.inr d) q) x
  | none => False
def kK (q : QK) (Γ : Env) : Sl → Sl → Prop := fun s _ => match s with
  | .val d => plainD d = true ∧ q (.val d) Γ
  | _ => False
def kSeqI (k : IK) : QK := fun s Γ' => match s.fz with
  | some d => (match itemsOf d with
    | some ds => k ds Γ'
    | none => False)
  | none => False
def kRng (k : IK) : LK := fun l Γ' => match rslv Γ' l with
  | some ds => (match dRng ds with
    | some r => k (rngOf r.1 r.2) Γ'
    | none => False)
  | none => False
def kEnm (k : IK) : LK := fun l Γ' => match rslv Γ' l with
  | some [.list ds] => k (enmOf 0 ds) Γ'
  | _ => False
def kZip (k : IK) : LK := fun l Γ' => match rslv Γ' l with
  | some [.list ds, .list es] => k (zipOf ds es) Γ'
  | _ => False
def kExpr (p : Po) : QK := fun _ Γ => p.nx Γ
def kSet (i : Nat) (p : Po) : QK := fun s Γ => p.nx (Γ.set i s)
def kUnp (is : List Nat) (p : Po) : LK := fun l Γ' => match rslv Γ' l with
  | some [d] => (match seqOf d with
    | some ds => (match setAll is ds Γ' with
      | some Γ2 => p.nx Γ2
      | none => False)
    | none => False)
  | _ => False
def kSetIx (i : Nat) (p : Po) : LK := fun l Γ' => match rslv Γ' l, Γ'[i]? with
  | some [d, .int k], some (.lst xs) => (match ixN xs.length k with
    | some j => p.nx (Γ'.set i (.lst (xs.set j d)))
    | none => False)
  | _, _ => False
def kIf (io : Bool) (φ : Str → Fn) (a b : S) (p : Po) : QK := fun s Γ1 => match s.bit with
  | some true => WS io φ a Γ1 p
  | some false => WS io φ b Γ1 p
  | none => False
def kFor (io : Bool) (φ : Str → Fn) (tg : Tg) (b : S) (p : Po) : IK := fun ds Γ1 => WF (forL tg (evS io φ b) ds Γ1) p
def kSeq (io : Bool) (φ : Str → Fn) (b : S) (p : Po) : Po := { p with nx := fun Γ => WS io φ b Γ p }
def kRetT (p : Po) : LK := fun l Γ => WF (retK l Γ) p
def kBk (io : Bool) (q : Sl → Sl → Prop) : QK := fun s Γ => match bkOf io Γ with
  | some b => q s b
  | none => False
def kDef (io : Bool) (q : Sl → Sl → Prop) (x : Str → PyData → Sl → Prop) : Po := ⟨fun Γ => kBk io q (.val .none) Γ, fun _ => False, fun _ => False, kBk io q, fun c d Γ => match bkOf io Γ with
  | some b => x c d b
  | none => False⟩
section
variable {q : QK} {x : XK} {p : Po} {Γ : Env} {φ : Str → Fn} {io : Bool} {k : LK} {ki : IK}
/-! operands -/
@[simp] theorem kCons_ap (a : Nat ⊕ PyData) (l : List (Nat ⊕ PyData)) : kCons a k l Γ = k (a :: l) Γ := rfl
@[simp] theorem wo_nil : WO φ [] Γ k x = k [] Γ := by unfold WO; rw [evOs_nil]; rfl
@[simp] theorem wo_ex (e : E) (r : List O) : WO φ (.ex e :: r) Γ k x = WE φ e Γ (kOp φ r k x) x := by
  unfold WO WE
  rw [evOs_cons, evO_ex, opsF_ex, wr_bind]
  congr 1
  funext s Γ1
  unfold kOp
  cases s.fz with
  | none => rfl
  | some d => simp only [wr_bind]; rfl
@[simp] theorem wo_pl (i : Nat) (r : List O) : WO φ (.pl i :: r) Γ k x = match Γ[i]? with
    | some s => (match s.pk with
      | some _ => WO φ r Γ (kCons (.inl i) k) x
      | none => False)
    | none => False := by
  unfold WO
  rw [evOs_cons, evO_pl, opsF_pl]
  cases Γ[i]? with
  | none => rfl
  | some s =>
    dsimp only
    cases s.pk with
    | none => rfl
    | some d => simp only [wr_bind]; rfl
@[simp] theorem wes_nil : WEs φ [] Γ k x = k [] Γ := by unfold WEs; rw [evEs_nil]; rfl
@[simp] theorem wes_cons (e : E) (r : List E) : WEs φ (e :: r) Γ k x = WE φ e Γ (kEs φ r k x) x := by
  unfold WEs WE
  rw [evEs_cons, List.map_cons, opsF_ex, wr_bind]
  congr 1
  funext s Γ1
  unfold kEs
  cases s.fz with
  | none => rfl
  | some d => simp only [wr_bind]; rfl
@[simp] theorem kOp_val (r : List O) (d : PyData) : kOp φ r k x (.val d) Γ = WO φ r Γ (kCons (.inr d) k) x := by unfold kOp; rw [fz_val]
@[simp] theorem kOp_lst (r : List O) (d : List PyData) : kOp φ r k x (.lst d) Γ = WO φ r Γ (kCons (.inr (.list d)) k) x := by unfold kOp; rw [fz_lst]
@[simp] theorem kEs_val (r : List E) (d : PyData) : kEs φ r k x (.val d) Γ = WEs φ r Γ (kCons (.inr d) k) x := by unfold kEs; rw [fz_val]
@[simp] theorem kEs_lst (r : List E) (d : List PyData) : kEs φ r k x (.lst d) Γ = WEs φ r Γ (kCons (.inr (.list d)) k) x := by unfold kEs; rw [fz_lst]
@[simp] theorem kVal_some (s : Sl) : kVal (some s) q Γ = q s Γ := rfl
@[simp] theorem kVal_none : kVal none q Γ = False := rfl
@[simp] theorem kVal_if {c : Prop} [Decidable c] (s : Sl) : kVal (if c then some s else none) q Γ = (c ∧ q s Γ) := by
  by_cases h : c <;> simp [h]
/-! expressions -/
@[simp] theorem we_v (i : Nat) : WE φ (.v i) Γ q x = match Γ[i]? with
    | some s => (match s.fz with
      | some d => q (.val d) (Γ.set i (.val d))
      | none => False)
    | none => False := by
  unfold WE
  rw [evE_v]
  unfold cV
  cases Γ[i]? with
  | none => rfl
  | some s =>
    dsimp only
    cases s.fz <;> rfl
@[simp] theorem we_c (d : PyData) : WE φ (.c d) Γ q x = q (.val d) Γ := by unfold WE; rw [evE_c]; rfl
@[simp] theorem we_prim (g : Prm) (os : List O) : WE φ (.prim g os) Γ q x = WO φ os Γ (kPrim g q) x := by
  unfold WE WO
  rw [evE_prim]
  unfold primF
  rw [wr_bind]
  congr 1
  funext l Γ'
  unfold kPrim
  cases rslv Γ' l with
  | none => rfl
  | some ds =>
    dsimp only
    cases den g ds <;> rfl
@[simp] theorem kPrim_ap (g : Prm) (l : List (Nat ⊕ PyData)) : kPrim g q l Γ = match rslv Γ l with
  | some ds => kVal (den g ds) q Γ
  | none => False := rfl
@[simp] theorem we_call (f : Str) (es : List E) : WE φ (.call f es) Γ q x = WEs φ es Γ (kCall (φ f) q x) x := by
  unfold WE WEs
  rw [evE_call]
  unfold callF
  rw [wr_bind]
  congr 1
  funext l Γ'
  unfold kCall
  cases rslv Γ' l with
  | none => rfl
  | some ds =>
    dsimp only
    cases φ f (ds.map .val) <;> rfl
@[simp] theorem kCall_ap (f : Fn) (l : List (Nat ⊕ PyData)) : kCall f q x l Γ = match rslv Γ l with
  | some ds => WC (f (ds.map .val)) (kOk q Γ) (kEx x Γ)
  | none => False := rfl
@[simp] theorem kOk_ap (s b : Sl) : kOk q Γ s b = q s Γ := rfl
@[simp] theorem kEx_ap (c : Str) (d : PyData) (b : Sl) : kEx x Γ c d b = x c d Γ := rfl
@[simp] theorem we_callIO (f : Str) (i : Nat) (es : List E) : WE φ (.callIO f i es) Γ q x = match Γ[i]? with
    | some sI => sI.owned = true ∧ WEs φ es Γ (kIO (φ f) i q x) x
    | none => False := by
  unfold WE WEs
  rw [evE_callIO]
  unfold callIO
  cases Γ[i]? with
  | none => rfl
  | some sI =>
    dsimp only
    by_cases h : sI.owned = true
    · rw [if_pos h, wr_bind]
      simp only [h, true_and]
      congr 1
      funext l Γ'
      unfold kIO
      cases rslv Γ' l with
      | none => rfl
      | some ds =>
        cases Γ'[i]? with
        | none => rfl
        | some s0 =>
          dsimp only
          by_cases h0 : s0.owned = true
          · rw [if_pos h0]
            simp only [h0, true_and]
            cases φ f (s0 :: ds.map .val) <;> rfl
          · rw [if_neg h0]
            simp [h0, WR]
    · rw [if_neg h]
      simp [h, WR]
@[simp] theorem kIO_ap (f : Fn) (i : Nat) (l : List (Nat ⊕ PyData)) : kIO f i q x l Γ = match rslv Γ l, Γ[i]? with
  | some ds, some s0 => s0.owned = true ∧ WC (f (s0 :: ds.map .val)) (kOkI i q Γ) (kExI i x Γ)
  | _, _ => False := rfl
@[simp] theorem kOkI_ap (i : Nat) (s b : Sl) : kOkI i q Γ s b = q s (Γ.set i b) := rfl
@[simp] theorem kExI_ap (i : Nat) (c : Str) (d : PyData) (b : Sl) : kExI i x Γ c d b = x c d (Γ.set i b) := rfl
@[simp] theorem vB_eq (b : Bool) : vB b = .val (.bool b) := rfl
@[simp] theorem we_and (a b : E) : WE φ (.and a b) Γ q x = WE φ a Γ (kAnd φ b q x) x := by
  unfold WE
  rw [evE_and]
  unfold andF tstF
  rw [wr_bind]
  congr 1
  funext s Γ1
  unfold kAnd
  cases s.bit with
  | none => rfl
  | some b => cases b <;> rfl
@[simp] theorem we_or (a b : E) : WE φ (.or a b) Γ q x = WE φ a Γ (kOr φ b q x) x := by
  unfold WE
  rw [evE_or]
  unfold orF tstF
  rw [wr_bind]
  congr 1
  funext s Γ1
  unfold kOr
  cases s.bit with
  | none => rfl
  | some b => cases b <;> rfl
@[simp] theorem we_not (a : E) : WE φ (.not a) Γ q x = WE φ a Γ (kNot q) x := by
  unfold WE
  rw [evE_not]
  unfold notF tstF
  rw [wr_bind]
  congr 1
  funext s Γ1
  unfold kNot
  cases s.bit with
  | none => rfl
  | some b => rfl
@[simp] theorem we_ite (t a b : E) : WE φ (.ite t a b) Γ q x = WE φ t Γ (kIte φ a b q x) x := by
  unfold WE
  rw [evE_ite]
  unfold iteF tstF
  rw [wr_bind]
  congr 1
  funext s Γ1
  unfold kIte
  cases s.bit with
  | none => rfl
  | some b => cases b <;> rfl
@[simp] theorem kAnd_t (b : E) : kAnd φ b q x (.val (.bool true)) Γ = WE φ b Γ q x := rfl
@[simp] theorem kAnd_f (b : E) : kAnd φ b q x (.val (.bool false)) Γ = q (.val (.bool false)) Γ := rfl
@[simp] theorem kOr_t (b : E) : kOr φ b q x (.val (.bool true)) Γ = q (.val (.bool true)) Γ := rfl
@[simp] theorem kOr_f (b : E) : kOr φ b q x (.val (.bool false)) Γ = WE φ b Γ q x := rfl
@[simp] theorem kNot_b (b : Bool) : kNot q (.val (.bool b)) Γ = q (.val (.bool !b)) Γ := rfl
@[simp] theorem kIte_t (a b : E) : kIte φ a b q x (.val (.bool true)) Γ = WE φ a Γ q x := rfl
@[simp] theorem kIte_f (a b : E) : kIte φ a b q x (.val (.bool false)) Γ = WE φ b Γ q x := rfl
@[simp] theorem we_chain (g g2 : Prm) (a b d : E) : WE φ (.chain g g2 a b d) Γ q x = WO φ [.ex a, .ex b] Γ (kCh φ g g2 d q x) x := by
  unfold WE WO
  rw [evE_chain]
  unfold chF
  rw [wr_bind]
  simp only [evOs_cons, evOs_nil, evO_ex]
  congr 1
  funext l Γ1
  unfold kCh
  cases rslv Γ1 l with
  | none => rfl
  | some ds =>
    match ds with
    | [] => rfl
    | [_] => rfl
    | _ :: _ :: _ :: _ => rfl
    | [a, b] =>
      dsimp only
      unfold kCh1
      match den g [a, b] with
      | none => rfl
      | some .un => rfl
      | some (.lst _) => rfl
      | some (.tup _) => rfl
      | some (.val .none) => rfl
      | some (.val (.int _)) => rfl
      | some (.val (.str _)) => rfl
      | some (.val (.list _)) => rfl
      | some (.val (.tuple _)) => rfl
      | some (.val (.dict _)) => rfl
      | some (.val (.bool false)) => rfl
      | some (.val (.bool true)) =>
        dsimp only
        rw [wr_bind]
        unfold WE
        congr 1
        funext s Γ2
        unfold kCh2
        cases s.fz with
        | none => rfl
        | some z =>
          dsimp only
          match den g2 [b, z] with
          | none => rfl
          | some .un => rfl
          | some (.lst _) => rfl
          | some (.tup _) => rfl
          | some (.val .none) => rfl
          | some (.val (.int _)) => rfl
          | some (.val (.str _)) => rfl
          | some (.val (.list _)) => rfl
          | some (.val (.tuple _)) => rfl
          | some (.val (.dict _)) => rfl
          | some (.val (.bool _)) => rfl
@[simp] theorem kCh_ap (g g2 : Prm) (e : E) (l : List (Nat ⊕ PyData)) : kCh φ g g2 e q x l Γ = match rslv Γ l with
  | some [a, b] => kCh1 φ g2 b e q x (den g [a, b]) Γ
  | _ => False := rfl
@[simp] theorem kCh1_t (g : Prm) (y : PyData) (e : E) : kCh1 φ g y e q x (some (.val (.bool true))) Γ = WE φ e Γ (kCh2 g y q) x := rfl
@[simp] theorem kCh1_f (g : Prm) (y : PyData) (e : E) : kCh1 φ g y e q x (some (.val (.bool false))) Γ = q (.val (.bool false)) Γ := rfl
@[simp] theorem kCh2_val (g : Prm) (y d : PyData) : kCh2 g y q (.val d) Γ = match den g [y, d] with
    | some (.val (.bool k)) => q (.val (.bool k)) Γ
    | _ => False := by unfold kCh2; rw [fz_val]; rfl
@[simp] theorem we_comp (it : I) (tg : Tg) (t : Option E) (e : E) (own : List Nat) : WE φ (.comp it tg t e own) Γ q x = WI φ it Γ (kComp φ tg t e own q x) x := by
  unfold WE WI
  rw [evE_comp]
  unfold compF
  rw [wr_bind]
  rfl
@[simp] theorem we_mut (m : Mm) (i : Nat) (es : List E) : WE φ (.mut m i es) Γ q x = match Γ[i]? with
    | some (.lst _) => WEs φ es Γ (kMut m i q) x
    | _ => False := by
  unfold WE WEs
  rw [evE_mut]
  unfold mutF
  cases Γ[i]? with
  | none => rfl
  | some s =>
    cases s with
    | un => rfl
    | val _ => rfl
    | tup _ => rfl
    | lst xs =>
      dsimp only
      rw [wr_bind]
      congr 1
      funext l Γ'
      unfold kMut
      cases rslv Γ' l with
      | none => rfl
      | some ds =>
        cases Γ'[i]? with
        | none => rfl
        | some s =>
          cases s with
          | un => rfl
          | val _ => rfl
          | tup _ => rfl
          | lst ys =>
            dsimp only
            cases mden m ys ds <;> rfl
@[simp] theorem kMut_ap (m : Mm) (i : Nat) (l : List (Nat ⊕ PyData)) : kMut m i q l Γ = match rslv Γ l, Γ[i]? with
  | some ds, some (.lst xs) => (match mden m xs ds with
    | some (d, ys) => q (.val d) (Γ.set i (.lst ys))
    | none => False)
  | _, _ => False := rfl
@[simp] theorem we_methE (g : Prm) (e : E) (es : List E) : WE φ (.meth g (.ex e) es) Γ q x = WE φ e Γ (kMethE φ g es q x) x := by
  unfold WE
  rw [evE_meth, evO_ex]
  unfold methF
  dsimp only
  rw [wr_bind]
  congr 1
  funext s Γ1
  unfold kMethE
  cases s.fz with
  | none => rfl
  | some d =>
    dsimp only
    by_cases h : kindOk (mkOf g) d = true
    · rw [if_pos h, wr_bind]
      simp only [h, true_and]
      unfold WEs
      congr 1
      funext l Γ'
      unfold kMeth
      cases rslv Γ' (.inr d :: l) with
      | none => rfl
      | some ds =>
        dsimp only
        cases den g ds <;> rfl
    · rw [if_neg h]
      simp [h, WR]
@[simp] theorem we_methP (g : Prm) (i : Nat) (es : List E) : WE φ (.meth g (.pl i) es) Γ q x = match Γ[i]? with
    | some s => (match s.pk with
      | some d => kindOk (mkOf g) d = true ∧ WEs φ es Γ (kMeth g (.inl i) q) x
      | none => False)
    | none => False := by
  unfold WE
  rw [evE_meth, evO_pl]
  unfold methF
  dsimp only
  cases Γ[i]? with
  | none => rfl
  | some s =>
    dsimp only
    cases s.pk with
    | none => rfl
    | some d =>
      dsimp only
      by_cases h : kindOk (mkOf g) d = true
      · rw [if_pos h, wr_bind]
        simp only [h, true_and]
        unfold WEs
        congr 1
        funext l Γ'
        unfold kMeth
        cases rslv Γ' (.inl i :: l) with
        | none => rfl
        | some ds =>
          dsimp only
          cases den g ds <;> rfl
      · rw [if_neg h]
        simp [h, WR]
@[simp] theorem kMethE_val (g : Prm) (es : List E) (d : PyData) : kMethE φ g es q x (.val d) Γ = (kindOk (mkOf g) d = true ∧ WEs φ es Γ (kMeth g (.inr d) q) x) := by unfold kMethE; rw [fz_val]
@[simp] theorem kMethE_lst (g : Prm) (es : List E) (d : List PyData) : kMethE φ g es q x (.lst d) Γ = (kindOk (mkOf g) (.list d) = true ∧ WEs φ es Γ (kMeth g (.inr (.list d)) q) x) := by unfold kMethE; rw [fz_lst]
@[simp] theorem kMeth_ap (g : Prm) (a : Nat ⊕ PyData) (l : List (Nat ⊕ PyData)) : kMeth g a q l Γ = match rslv Γ (a :: l) with
  | some ds => kVal (den g ds) q Γ
  | none => False := rfl
@[simp] theorem kindOk_s (z : Str) : kindOk .str (.str z) = true := rfl
@[simp] theorem kindOk_l (z : List PyData) : kindOk .list (.list z) = true := rfl
@[simp] theorem mkOf_join : mkOf .join = .str := rfl
@[simp] theorem mkOf_split : mkOf .split = .str := rfl
@[simp] theorem mkOf_index : mkOf .index = .list := rfl
@[simp] theorem we_callK (f : Str) (is : List Nat) (hx : ∀ r : CRes, r = r) : WE φ (.callK f is) Γ q x = match fzAll Γ is with
    | some ds => WC (φ f (ds.map .val)) (kK q Γ) fx1
    | none => False := by
  unfold WE
  rw [evE_callK]
  unfold callK
  cases fzAll Γ is with
  | none => rfl
  | some ds =>
    dsimp only
    cases φ f (ds.map .val) with
    | no => rfl
    | ex c d b => rfl
    | ok s b =>
      cases s with
      | un => rfl
      | lst _ => rfl
      | tup _ => rfl
      | val d =>
        show WR (if plainD d = true then .ok (.val d) Γ else .no) q x = (plainD d = true ∧ q (.val d) Γ)
        by_cases h : plainD d = true
        · rw [if_pos h]; simp [h, WR]
        · rw [if_neg h]; simp [h, WR]
def kB (q : QK) (Γ : Env) : Sl → Sl → Prop := fun s _ => match s with
  | .val d => noL d = true ∧ q (.val d) Γ
  | _ => False
def kBx (x : XK) (Γ : Env) : Str → PyData → Sl → Prop := fun c d _ => noL d = true ∧ x c d Γ
def kCallB (f : Fn) (q : QK) (x : XK) : LK := fun l Γ' => match rslv Γ' l with
  | some ds => WC (f (ds.map .val)) (kB q Γ') (kBx x Γ')
  | none => False
@[simp] theorem we_callB (f : Str) (os : List O) : WE φ (.callB f os) Γ q x = WO φ os Γ (kCallB (φ f) q x) x := by
  unfold WE WO
  rw [evE_callB]
  unfold callBF
  rw [wr_bind]
  congr 1
  funext l Γ'
  unfold kCallB
  cases rslv Γ' l with
  | none => rfl
  | some ds =>
    dsimp only
    cases φ f (ds.map .val) with
    | no => rfl
    | ex c d b =>
      show WR (if noL d = true then .ex c d Γ' else .no) q x = (noL d = true ∧ x c d Γ')
      by_cases h : noL d = true
      · rw [if_pos h]; simp [h, WR]
      · rw [if_neg h]; simp [h, WR]
    | ok s b =>
      cases s with
      | un => rfl
      | lst _ => rfl
      | tup _ => rfl
      | val d =>
        show WR (if noL d = true then .ok (.val d) Γ' else .no) q x = (noL d = true ∧ q (.val d) Γ')
        by_cases h : noL d = true
        · rw [if_pos h]; simp [h, WR]
        · rw [if_neg h]; simp [h, WR]
@[simp] theorem kCallB_ap (f : Fn) (l : List (Nat ⊕ PyData)) : kCallB f q x l Γ = match rslv Γ l with
  | some ds => WC (f (ds.map .val)) (kB q Γ) (kBx x Γ)
  | none => False := rfl
@[simp] theorem kB_val (d : PyData) (b : Sl) : kB q Γ (.val d) b = (noL d = true ∧ q (.val d) Γ) := rfl
@[simp] theorem kBx_ap (c : Str) (d : PyData) (b : Sl) : kBx x Γ c d b = (noL d = true ∧ x c d Γ) := rfl
@[simp] theorem noL_n : noL .none = true := by simp [noL]
@[simp] theorem noL_b (b : Bool) : noL (.bool b) = true := by simp [noL]
@[simp] theorem noL_i (b : Int) : noL (.int b) = true := by simp [noL]
@[simp] theorem noL_s (b : Str) : noL (.str b) = true := by simp [noL]
@[simp] theorem noL_t (b : List PyData) : noL (.tuple b) = noLs b := by simp [noL]
@[simp] theorem noLs_n : noLs [] = true := by simp [noLs]
@[simp] theorem noLs_c (d : PyData) (b : List PyData) : noLs (d :: b) = (noL d && noLs b) := by simp [noLs]
theorem noLs_map {α : Type} (g : α → PyData) (h : ∀ a, noL (g a) = true) : ∀ l : List α, noLs (l.map g) = true
  | [] => by simp
  | a :: l => by simp [h a, noLs_map g h l]
@[simp] theorem kK_val (d : PyData) (b : Sl) : kK q Γ (.val d) b = (plainD d = true ∧ q (.val d) Γ) := rfl
/-! walks -/
@[simp] theorem wi_seq (e : E) : WI φ (.seq e) Γ ki x = WE φ e Γ (kSeqI ki) x := by
  unfold WI WE
  rw [evI_seq]
  unfold seqI
  rw [wr_bind]
  congr 1
  funext s Γ'
  unfold kSeqI
  cases s.fz with
  | none => rfl
  | some d =>
    dsimp only
    cases itemsOf d <;> rfl
@[simp] theorem kSeqI_val (d : PyData) : kSeqI ki (.val d) Γ = match itemsOf d with
    | some ds => ki ds Γ
    | none => False := by unfold kSeqI; rw [fz_val]
@[simp] theorem kSeqI_lst (d : List PyData) : kSeqI ki (.lst d) Γ = ki d Γ := by unfold kSeqI; rw [fz_lst]; rfl
@[simp] theorem items_l (ds : List PyData) : itemsOf (.list ds) = some ds := rfl
@[simp] theorem items_t (ds : List PyData) : itemsOf (.tuple ds) = some ds := rfl
@[simp] theorem wi_rng (es : List E) : WI φ (.rng es) Γ ki x = WEs φ es Γ (kRng ki) x := by
  unfold WI WEs
  rw [evI_rng]
  unfold rngI
  rw [wr_bind]
  congr 1
  funext l Γ'
  unfold rngK kRng
  cases rslv Γ' l with
  | none => rfl
  | some ds =>
    dsimp only
    cases dRng ds <;> rfl
@[simp] theorem kRng_ap (l : List (Nat ⊕ PyData)) : kRng ki l Γ = match rslv Γ l with
  | some ds => (match dRng ds with
    | some r => ki (rngOf r.1 r.2) Γ
    | none => False)
  | none => False := rfl
@[simp] theorem wi_enm (e : E) : WI φ (.enm e) Γ ki x = WE φ e Γ (kEs φ [] (kEnm ki) x) x := by
  rw [← wes_cons]
  unfold WI WEs
  rw [evI_enm]
  unfold enmI
  rw [wr_bind]
  simp only [evEs_cons, evEs_nil, List.map_cons, List.map_nil]
  congr 1
  funext l Γ'
  unfold enmK kEnm
  match rslv Γ' l with
  | none => rfl
  | some [] => rfl
  | some (.list _ :: _ :: _) => rfl
  | some [.list _] => rfl
  | some (.none :: _) => rfl
  | some (.bool _ :: _) => rfl
  | some (.int _ :: _) => rfl
  | some (.str _ :: _) => rfl
  | some (.tuple _ :: _) => rfl
  | some (.dict _ :: _) => rfl
@[simp] theorem kEnm_ap (l : List (Nat ⊕ PyData)) : kEnm ki l Γ = match rslv Γ l with
  | some [.list ds] => ki (enmOf 0 ds) Γ
  | _ => False := rfl
@[simp] theorem wi_zip (a b : E) : WI φ (.zip a b) Γ ki x = WEs φ [a, b] Γ (kZip ki) x := by
  unfold WI WEs
  rw [evI_zip]
  unfold zipI
  rw [wr_bind]
  simp only [evEs_cons, evEs_nil, List.map_cons, List.map_nil]
  congr 1
  funext l Γ'
  unfold zipK kZip
  match rslv Γ' l with
  | none => rfl
  | some [] => rfl
  | some [.list _] => rfl
  | some (.list _ :: .list _ :: _ :: _) => rfl
  | some [.list _, .list _] => rfl
  | some (.list _ :: .none :: _) => rfl
  | some (.list _ :: .bool _ :: _) => rfl
  | some (.list _ :: .int _ :: _) => rfl
  | some (.list _ :: .str _ :: _) => rfl
  | some (.list _ :: .tuple _ :: _) => rfl
  | some (.list _ :: .dict _ :: _) => rfl
  | some (.none :: _) => rfl
  | some (.bool _ :: _) => rfl
  | some (.int _ :: _) => rfl
  | some (.str _ :: _) => rfl
  | some (.tuple _ :: _) => rfl
  | some (.dict _ :: _) => rfl
@[simp] theorem kZip_ap (l : List (Nat ⊕ PyData)) : kZip ki l Γ = match rslv Γ l with
  | some [.list ds, .list es] => ki (zipOf ds es) Γ
  | _ => False := rfl
/-! statements -/
@[simp] theorem ws_next : WS io φ .next Γ p = p.nx Γ := by unfold WS; simp only [evS]; rfl
@[simp] theorem ws_brk : WS io φ .brk Γ p = p.br Γ := by unfold WS; simp only [evS]; rfl
@[simp] theorem ws_cont : WS io φ .cont Γ p = p.co Γ := by unfold WS; simp only [evS]; rfl
@[simp] theorem ws_no : WS io φ .no Γ p = False := by unfold WS; simp only [evS]; rfl
@[simp] theorem ws_retN : WS io φ .retN Γ p = p.rt (.val .none) Γ := by unfold WS; simp only [evS]; rfl
@[simp] theorem ws_expr (e : E) : WS io φ (.expr e) Γ p = WE φ e Γ (kExpr p) p.ex := by
  unfold WS WE
  simp only [evS, exprS]
  rw [wf_fl]
  rfl
@[simp] theorem kExpr_ap (s : Sl) : kExpr p s Γ = p.nx Γ := rfl
@[simp] theorem ws_ret (e : E) : WS io φ (.ret e) Γ p = WE φ e Γ p.rt p.ex := by
  unfold WS WE
  simp only [evS, retS]
  rw [wf_fl]
  rfl
@[simp] theorem ws_set (i : Nat) (e : E) : WS io φ (.set i e) Γ p = if (io && i == 0) = true then False else WE φ e Γ (kSet i p) p.ex := by
  unfold WS WE
  simp only [evS, setS]
  split
  · rfl
  · rw [wf_fl]
    rfl
@[simp] theorem kSet_ap (i : Nat) (s : Sl) : kSet i p s Γ = p.nx (Γ.set i s) := rfl
@[simp] theorem ws_unp (is : List Nat) (o : O) : WS io φ (.unp is o) Γ p = if (io && is.contains 0) = true then False else WO φ [o] Γ (kUnp is p) p.ex := by
  unfold WS WO
  simp only [evS, unpS, evOs_cons, evOs_nil]
  split
  · rfl
  · rw [wf_fl]
    congr 1
    funext l Γ'
    unfold kUnp
    match rslv Γ' l with
    | none => rfl
    | some [] => rfl
    | some (_ :: _ :: _) => rfl
    | some [d] =>
      dsimp only
      cases seqOf d with
      | none => rfl
      | some ds =>
        dsimp only
        cases setAll is ds Γ' <;> rfl
@[simp] theorem kUnp_ap (is : List Nat) (l : List (Nat ⊕ PyData)) : kUnp is p l Γ = match rslv Γ l with
  | some [d] => (match seqOf d with
    | some ds => (match setAll is ds Γ with
      | some Γ2 => p.nx Γ2
      | none => False)
    | none => False)
  | _ => False := rfl
@[simp] theorem seqOf_t (ds : List PyData) : seqOf (.tuple ds) = some ds := rfl
@[simp] theorem seqOf_l (ds : List PyData) : seqOf (.list ds) = some ds := rfl
@[simp] theorem setAll_nil : setAll [] [] Γ = some Γ := rfl
@[simp] theorem setAll_cons (i : Nat) (is : List Nat) (d : PyData) (ds : List PyData) : setAll (i :: is) (d :: ds) Γ = setAll is ds (Γ.set i (.val d)) := rfl
@[simp] theorem setTg_one (i : Nat) (d : PyData) : setTg (.one i) d Γ = some (Γ.set i (.val d)) := rfl
@[simp] theorem setTg_tup (is : List Nat) (ds : List PyData) : setTg (.tup is) (.tuple ds) Γ = setAll is ds Γ := rfl
@[simp] theorem ws_setIx (i : Nat) (a b : E) : WS io φ (.setIx i a b) Γ p = match Γ[i]? with
    | some (.lst _) => WEs φ [b, a] Γ (kSetIx i p) p.ex
    | _ => False := by
  unfold WS WEs
  simp only [evS, setIxS, evEs_cons, evEs_nil, List.map_cons, List.map_nil]
  cases Γ[i]? with
  | none => rfl
  | some s =>
    cases s with
    | un => rfl
    | val _ => rfl
    | tup _ => rfl
    | lst xs =>
      dsimp only
      rw [wf_fl]
      congr 1
      funext l Γ'
      unfold kSetIx
      match rslv Γ' l, Γ'[i]? with
      | none, _ => rfl
      | some [], _ => rfl
      | some [_], _ => rfl
      | some (_ :: v :: _ :: _), y => cases v <;> first | rfl | (cases y with
        | none => rfl
        | some s => cases s <;> rfl)
      | some [_, .none], _ => rfl
      | some [_, .bool _], _ => rfl
      | some [_, .str _], _ => rfl
      | some [_, .list _], _ => rfl
      | some [_, .tuple _], _ => rfl
      | some [_, .dict _], _ => rfl
      | some [_, .int _], none => rfl
      | some [_, .int _], some .un => rfl
      | some [_, .int _], some (.val _) => rfl
      | some [_, .int _], some (.tup _) => rfl
      | some [d, .int j], some (.lst xs) =>
        dsimp only
        cases ixN xs.length j <;> rfl
@[simp] theorem kSetIx_ap (i : Nat) (l : List (Nat ⊕ PyData)) : kSetIx i p l Γ = match rslv Γ l, Γ[i]? with
  | some [d, .int k], some (.lst xs) => (match ixN xs.length k with
    | some j => p.nx (Γ.set i (.lst (xs.set j d)))
    | none => False)
  | _, _ => False := rfl
@[simp] theorem ws_ite (c : E) (a b : S) : WS io φ (.ite c a b) Γ p = WE φ c Γ (kIf io φ a b p) p.ex := by
  unfold WS WE
  simp only [evS, ifS]
  rw [wf_fl]
  congr 1
  funext s Γ'
  unfold kIf
  cases s.bit with
  | none => rfl
  | some b => cases b <;> rfl
@[simp] theorem kIf_t (a b : S) : kIf io φ a b p (.val (.bool true)) Γ = WS io φ a Γ p := rfl
@[simp] theorem kIf_f (a b : S) : kIf io φ a b p (.val (.bool false)) Γ = WS io φ b Γ p := rfl
@[simp] theorem ws_for (it : I) (tg : Tg) (b : S) : WS io φ (.forS it tg b) Γ p = if (io && tg.all.contains 0) = true then False else WI φ it Γ (kFor io φ tg b p) p.ex := by
  unfold WS WI
  simp only [evS, forS]
  split
  · rfl
  · rw [wf_fl]
    rfl
@[simp] theorem tgall_one (i : Nat) : (Tg.one i).all = [i] := rfl
@[simp] theorem tgall_tup (is : List Nat) : (Tg.tup is).all = is := rfl
@[simp] theorem ws_seq (a b : S) : WS io φ (.seq a b) Γ p = WS io φ a Γ (kSeq io φ b p) := by
  unfold WS
  simp only [evS, seqS]
  cases evS io φ a Γ <;> rfl
@[simp] theorem kSeq_nx (b : S) : (kSeq io φ b p).nx Γ = WS io φ b Γ p := rfl
@[simp] theorem kSeq_br (b : S) : (kSeq io φ b p).br = p.br := rfl
@[simp] theorem kSeq_co (b : S) : (kSeq io φ b p).co = p.co := rfl
@[simp] theorem kSeq_rt (b : S) : (kSeq io φ b p).rt = p.rt := rfl
@[simp] theorem kSeq_ex (b : S) : (kSeq io φ b p).ex = p.ex := rfl
@[simp] theorem ws_retT (a : O) (ys : List O) : WS io φ (.retT a ys) Γ p = WO φ (a :: ys) Γ (kRetT p) p.ex := by
  unfold WS WO
  simp only [evS, retT, evOs_cons]
  rw [wf_fl]
  rfl
@[simp] theorem kRetT_ap (l : List (Nat ⊕ PyData)) : kRetT p l Γ = if lineB l.length = true then (match mvs l Γ with
  | some (s0 :: ss, Γ2) => p.rt (.tup [s0, .tup ss]) Γ2
  | _ => False) else False := by
  unfold kRetT retK
  split
  · match mvs l Γ with
    | none => rfl
    | some ([], _) => rfl
    | some (_ :: _, _) => rfl
  · rfl
@[simp] theorem ws_mutP (m : Mm) (i : Nat) (rp : List Nat) (sa : SA) : WS io φ (.mutP m i rp sa) Γ p = match Γ[i]? with
    | some s => (match upAt (fun xs => mden m xs sa.ds) rp.reverse s with
      | some q => p.nx (Γ.set i q.2)
      | none => False)
    | none => False := by
  unfold WS
  simp only [evS, mutPS]
  cases Γ[i]? with
  | none => rfl
  | some s =>
    dsimp only
    cases upAt (fun xs => mden m xs sa.ds) rp.reverse s <;> rfl
/-! a def -/
theorem wc_run (io : Bool) (n : Nat) (ir : S) (ss : List Sl) (q : Sl → Sl → Prop) (x : Str → PyData → Sl → Prop) : WC (runS io n (evS io φ ir) ss) q x = WS io φ ir (ss ++ List.replicate (n - ss.length) .un) (kDef io q x) := by
  unfold runS WS
  cases evS io φ ir (ss ++ List.replicate (n - ss.length) .un) with
  | next Γ => show WC (match bkOf io Γ with | some b => .ok (.val .none) b | none => .no) q x = kBk io q (.val .none) Γ; unfold kBk; cases bkOf io Γ <;> rfl
  | ret s Γ => show WC (match bkOf io Γ with | some b => .ok s b | none => .no) q x = kBk io q s Γ; unfold kBk; cases bkOf io Γ <;> rfl
  | ex c d Γ => show WC (match bkOf io Γ with | some b => .ex c d b | none => .no) q x = match bkOf io Γ with | some b => x c d b | none => False; cases bkOf io Γ <;> rfl
  | brk _ => rfl
  | cont _ => rfl
  | no => rfl
@[simp] theorem kDef_nx (q : Sl → Sl → Prop) (x : Str → PyData → Sl → Prop) : (kDef io q x).nx Γ = kBk io q (.val .none) Γ := rfl
@[simp] theorem kDef_rt (q : Sl → Sl → Prop) (x : Str → PyData → Sl → Prop) : (kDef io q x).rt = kBk io q := rfl
@[simp] theorem kBk_f (q : Sl → Sl → Prop) (s : Sl) : kBk false q s Γ = q s .un := rfl
@[simp] theorem kBk_t (q : Sl → Sl → Prop) (s b : Sl) : kBk true q s (b :: Γ) = (b.owned = true ∧ q s b) := by
  unfold kBk
  show (match (if b.owned = true then some b else none) with | some b => q s b | none => False) = _
  by_cases h : b.owned = true <;> simp [h]
/-! a walk, a while, a comprehension, by what stays -/
theorem w_for {tg : Tg} {b : S} {ds : List PyData} (I : Nat → Env → Prop) (h0 : I 0 Γ) (st : ∀ (J : Nat → Env → Prop), (∀ i Γ, I i Γ → J i Γ) → ∀ i d Γ, ds[i]? = some d → I i Γ → match setTg tg d Γ with
    | none => False
    | some Γ1 => WS io φ b Γ1 ⟨J (i + 1), p.nx, J (i + 1), p.rt, p.ex⟩) (he : ∀ Γ, I ds.length Γ → p.nx Γ) : kFor io φ tg b p ds Γ := by
  have aux : ∀ (ds2 : List PyData) (j : Nat) (Γ : Env), (∀ i d, ds2[i]? = some d → ds[j + i]? = some d) → j + ds2.length = ds.length → I j Γ → WF (forL tg (evS io φ b) ds2 Γ) p := by
    intro ds2
    induction ds2 with
    | nil => exact fun j Γ h l k => he Γ (by rw [← l]; exact k)
    | cons d ds2 ih =>
      intro j Γ h l k
      have s := st I (fun _ _ h => h) j d Γ (h 0 d rfl) k
      unfold forL
      cases q : setTg tg d Γ with
      | none => rw [q] at s; exact s.elim
      | some Γ1 =>
        rw [q] at s
        unfold WS at s
        dsimp only at s ⊢
        have nx : ∀ Γ2, I (j + 1) Γ2 → WF (forL tg (evS io φ b) ds2 Γ2) p := fun Γ2 k2 => ih (j + 1) Γ2 (fun i d' e => by rw [show j + 1 + i = j + (i + 1) by omega]; exact h (i + 1) d' (by simpa using e)) (by simp at l; omega) k2
        cases q2 : evS io φ b Γ1 with
        | next Γ2 => rw [q2] at s; exact nx Γ2 s
        | cont Γ2 => rw [q2] at s; exact nx Γ2 s
        | brk _ => rw [q2] at s; exact s
        | ret _ _ => rw [q2] at s; exact s
        | ex _ _ _ => rw [q2] at s; exact s
        | no => rw [q2] at s; exact s
  exact aux ds 0 Γ (fun i d h => by rw [Nat.zero_add]; exact h) (by simp) h0
/-- what a while's test comes to -/
def kWh (io : Bool) (φ : Str → Fn) (b : S) (p p2 : Po) : QK := fun s Γ1 => match s.bit with
  | some true => WS io φ b Γ1 p2
  | some false => p.nx Γ1
  | none => False
@[simp] theorem kWh_t (b : S) (p p2 : Po) : kWh io φ b p p2 (.val (.bool true)) Γ = WS io φ b Γ p2 := rfl
@[simp] theorem kWh_f (b : S) (p p2 : Po) : kWh io φ b p p2 (.val (.bool false)) Γ = p.nx Γ := rfl
theorem w_wh {c : E} {b : S} (I : Nat → Env → Prop) (st : ∀ n (J : Env → Prop), (∀ m Γ, m < n → I m Γ → J Γ) → ∀ Γ, I n Γ → WE φ c Γ (kWh io φ b p ⟨J, p.nx, J, p.rt, p.ex⟩) p.ex) : ∀ (n : Nat) (Γ : Env), I n Γ → WS io φ (.whS c b) Γ p := by
  intro n
  induction n using Nat.strongRecOn with
  | ind n ih =>
    intro Γ h
    have s := st n (fun Γ2 => ∃ m, m < n ∧ I m Γ2) (fun m Γ h1 h2 => ⟨m, h1, h2⟩) Γ h
    unfold WS
    simp only [evS]
    rw [whS_unfold, wf_fl]
    refine wr_mono s fun a Γ1 k => ?_
    unfold kWh WS at k
    cases q : a.bit with
    | none => rw [q] at k; exact k
    | some t =>
      rw [q] at k
      cases t with
      | false => exact k
      | true =>
        dsimp only at k ⊢
        cases q2 : evS io φ b Γ1 with
        | next Γ2 => rw [q2] at k; obtain ⟨m, l, i⟩ := k; have z := ih m l Γ2 i; unfold WS at z; simp only [evS] at z; exact z
        | cont Γ2 => rw [q2] at k; obtain ⟨m, l, i⟩ := k; have z := ih m l Γ2 i; unfold WS at z; simp only [evS] at z; exact z
        | brk _ => rw [q2] at k; exact k
        | ret _ _ => rw [q2] at k; exact k
        | ex _ _ _ => rw [q2] at k; exact k
        | no => rw [q2] at k; exact k
/-- one turn of a comprehension -/
abbrev OK := Option PyData → Env → Prop
def WT (φ : Str → Fn) (tg : Tg) (t : Option E) (e : E) (own : List Nat) (d : PyData) (Γ : Env) (k : OK) : Prop := WR (lcT tg (evT φ t) (evE φ e) own d Γ) k fx2
def kElt (k : OK) : QK := fun s Γ2 => match s.fz with
  | some x => k (some x) Γ2
  | none => False
def kTst (φ : Str → Fn) (e : E) (k : OK) : QK := fun s Γ2 => match s.bit with
  | some true => WE φ e Γ2 (kElt k) fx2
  | some false => k none Γ2
  | none => False
@[simp] theorem kElt_val (k : OK) (d : PyData) : kElt k (.val d) Γ = k (some d) Γ := by unfold kElt; rw [fz_val]
@[simp] theorem kElt_lst (k : OK) (d : List PyData) : kElt k (.lst d) Γ = k (some (.list d)) Γ := by unfold kElt; rw [fz_lst]
@[simp] theorem kTst_t (k : OK) (e : E) : kTst φ e k (.val (.bool true)) Γ = WE φ e Γ (kElt k) fx2 := rfl
@[simp] theorem kTst_f (k : OK) (e : E) : kTst φ e k (.val (.bool false)) Γ = k none Γ := rfl
@[simp] theorem wt_n (k : OK) (tg : Tg) (e : E) (own : List Nat) (d : PyData) : WT φ tg none e own d Γ k = match setTg tg d (unE own 0 Γ) with
    | none => False
    | some Γ1 => WE φ e Γ1 (kElt k) fx2 := by
  unfold WT lcT
  rw [evT_none]
  cases setTg tg d (unE own 0 Γ) with
  | none => rfl
  | some Γ1 =>
    dsimp only
    unfold elt1 WE
    rw [wr_bind]
    congr 1
    funext s Γ2
    unfold kElt
    cases s.fz <;> rfl
@[simp] theorem wt_s (k : OK) (tg : Tg) (c e : E) (own : List Nat) (d : PyData) : WT φ tg (some c) e own d Γ k = match setTg tg d (unE own 0 Γ) with
    | none => False
    | some Γ1 => WE φ c Γ1 (kTst φ e k) fx2 := by
  unfold WT lcT
  rw [evT_some]
  cases setTg tg d (unE own 0 Γ) with
  | none => rfl
  | some Γ1 =>
    dsimp only
    unfold WE
    rw [wr_bind]
    congr 1
    funext s Γ2
    unfold kTst
    cases s.bit with
    | none => rfl
    | some b =>
      cases b with
      | false => rfl
      | true =>
        dsimp only
        unfold elt1 WE
        rw [wr_bind]
        congr 1
        funext s Γ2
        unfold kElt
        cases s.fz <;> rfl
theorem w_comp {tg : Tg} {t : Option E} {e : E} {own : List Nat} {ds : List PyData} (I : Nat → List PyData → Env → Prop) (hd : datE own 0 Γ = true) (h0 : I 0 [] Γ) (st : ∀ (J : Nat → List PyData → Env → Prop), (∀ i acc Γ, I i acc Γ → J i acc Γ) → ∀ i d acc Γ, ds[i]? = some d → I i acc Γ → WT φ tg t e own d Γ fun o Γ2 => J (i + 1) (acc ++ o.toList) Γ2)
    (he : ∀ l Γ2, I ds.length l Γ2 → q (.lst l) (mixE own 0 Γ Γ2)) : kComp φ tg t e own q x ds Γ := by
  unfold kComp
  obtain ⟨l, Γ2, e1, e2⟩ := lcL_inv I (ds := ds) (j := 0) h0 fun i d acc Γ e h => by
    rw [Nat.zero_add] at h ⊢
    have s := st I (fun _ _ _ h => h) i d acc Γ e h
    unfold WT at s
    cases q : lcT tg (evT φ t) _ own d Γ with
    | ok o Γ2 => rw [q] at s; exact ⟨o, Γ2, q, s⟩
    | ex _ _ _ => rw [q] at s; exact s.elim
    | no => rw [q] at s; exact s.elim
  rw [hd, e1]
  exact he l Γ2 (by simpa using e2)
/-- .. that leaves the rest as it is -/
theorem w_pure {tg : Tg} {t : Option E} {e : E} {own : List Nat} {ds : List PyData} (g : PyData → Option PyData) (hd : datE own 0 Γ = true) (h : ∀ d ∈ ds, ∀ J : OK, (∀ Γ2, unE own 0 Γ2 = unE own 0 Γ → J (g d) Γ2) → WT φ tg t e own d Γ J)
    (hq : q (.lst (ds.flatMap fun d => (g d).toList)) Γ) : kComp φ tg t e own q x ds Γ := by
  unfold kComp
  obtain ⟨Γ2, e1, e2⟩ := lcL_pure (tg := tg) (t := evT φ t) (e := evE φ e) (own := own) (Γ1 := Γ) (g := g) rfl fun d hm => by
    have s := h d hm (fun o Γ2 => o = g d ∧ unE own 0 Γ2 = unE own 0 Γ) fun Γ2 e => ⟨rfl, e⟩
    unfold WT at s
    cases q : lcT tg (evT φ t) (evE φ e) own d Γ with
    | ok o Γ2 => rw [q] at s; exact ⟨Γ2, by rw [s.1], s.2⟩
    | ex _ _ _ => rw [q] at s; exact s.elim
    | no => rw [q] at s; exact s.elim
  rw [hd, e1]
  dsimp only
  rw [mixE_same own 0 Γ Γ2 e2]
  exact hq
theorem flat_some (g : PyData → PyData) : ∀ l : List PyData, (l.flatMap fun d => (some (g d)).toList) = l.map g
  | [] => rfl
  | d :: l => by rw [List.flatMap_cons, flat_some g l]; rfl
theorem w_map {tg : Tg} {e : E} {own : List Nat} {ds : List PyData} (g : PyData → PyData) (hd : datE own 0 Γ = true) (h : ∀ d ∈ ds, ∀ J : OK, (∀ Γ2, unE own 0 Γ2 = unE own 0 Γ → J (some (g d)) Γ2) → WT φ tg none e own d Γ J)
    (hq : q (.lst (ds.map g)) Γ) : kComp φ tg none e own q x ds Γ := w_pure (fun d => some (g d)) hd h (by rw [flat_some]; exact hq)
end
@[simp] theorem intsOf_map (ns : List Int) : intsOf (ns.map PyData.int) = some ns := by
  induction ns with
  | nil => rfl
  | cons n ns ih => simp [intsOf, ih]
@[simp] theorem strsOf_map (ns : List Str) : strsOf (ns.map PyData.str) = some ns := by
  induction ns with
  | nil => rfl
  | cons n ns ih => simp [strsOf, ih]
@[simp] theorem bitsOf_map (ns : List Bool) : bitsOf (ns.map PyData.bool) = some ns := by
  induction ns with
  | nil => rfl
  | cons n ns ih => simp [bitsOf, ih]
theorem map_get {α : Type} {enc : α → PyData} {l : List α} {i : Nat} {d : PyData} (h : (l.map enc)[i]? = some d) : ∃ a, l[i]? = some a ∧ d = enc a := by
  rw [List.getElem?_map] at h
  cases q : l[i]? with
  | none => rw [q] at h; cases h
  | some a => rw [q] at h; cases h; exact ⟨a, rfl, rfl⟩
theorem take_snoc {α : Type} {l : List α} {i : Nat} {a : α} (h : l[i]? = some a) : l.take (i + 1) = l.take i ++ [a] := by
  rw [List.take_add_one, h]; rfl
section
variable {q : QK} {x : XK} {Γ : Env} {φ : Str → Fn}
theorem w_filt {α : Type} {tg : Tg} {t : Option E} {e : E} {own : List Nat} (enc : α → PyData) (l : List α) (g : α → Option PyData) (hd : datE own 0 Γ = true)
    (h : ∀ a ∈ l, ∀ J : OK, (∀ Γ2, unE own 0 Γ2 = unE own 0 Γ → J (g a) Γ2) → WT φ tg t e own (enc a) Γ J) (hq : q (.lst (l.filterMap g)) Γ) : kComp φ tg t e own q x (l.map enc) Γ := by
  refine w_comp (fun i acc Γ' => unE own 0 Γ' = unE own 0 Γ ∧ acc = (l.take i).filterMap g) hd ⟨rfl, by simp⟩ ?_ ?_
  · rintro J hJ i d acc Γ' hd ⟨h1, rfl⟩
    obtain ⟨a, ha, rfl⟩ := map_get hd
    have z := h a (List.mem_of_getElem? ha) (fun o Γ2 => J (i + 1) ((l.take i).filterMap g ++ o.toList) Γ2) fun Γ2 e => hJ _ _ _ ⟨e, by rw [take_snoc ha, List.filterMap_append]; cases q : g a <;> simp [q]⟩
    unfold WT at z ⊢
    rw [lcT_un h1]
    exact z
  · rintro l' Γ2 ⟨h1, rfl⟩
    rw [mixE_same own 0 Γ Γ2 h1, List.length_map, List.take_length]
    exact hq
theorem w_mapA {α : Type} {tg : Tg} {e : E} {own : List Nat} (enc : α → PyData) (l : List α) (g : α → PyData) (hd : datE own 0 Γ = true)
    (h : ∀ a ∈ l, ∀ J : OK, (∀ Γ2, unE own 0 Γ2 = unE own 0 Γ → J (some (g a)) Γ2) → WT φ tg none e own (enc a) Γ J) (hq : q (.lst (l.map g)) Γ) : kComp φ tg none e own q x (l.map enc) Γ :=
  w_filt enc l (fun a => some (g a)) hd h (by rw [List.filterMap_eq_map' (f := g)] <;> first | exact hq | rfl)
end
def Tx.numT (i : Int) : Str := Str.ofString (toString i)
/-! primitives on what is at hand -/
@[simp] theorem lineB_eq (n : Nat) : lineB n = decide (n ≤ 16777216) := by unfold lineB; rw [sizeLine_eq]
@[simp] theorem big64_eq (i : Int) : big64 i = decide (-18446744073709551616 < i ∧ i < 18446744073709551616) := rfl
section
variable (i j : Int) (a b : Str) (xs ys : List PyData) (d : PyData)
@[simp] theorem den_add_i : den .add [.int i, .int j] = some (.val (.int (i + j))) := rfl
@[simp] theorem den_add_s : den .add [.str a, .str b] = if lineB (a.length + b.length) then some (.val (.str (a ++ b))) else none := rfl
@[simp] theorem den_add_l : den .add [.list xs, .list ys] = if lineB (xs.length + ys.length) then some (.lst (xs ++ ys)) else none := rfl
@[simp] theorem den_add_t : den .add [.tuple xs, .tuple ys] = if lineB (xs.length + ys.length) then some (.val (.tuple (xs ++ ys))) else none := rfl
@[simp] theorem den_sub : den .sub [.int i, .int j] = some (.val (.int (i - j))) := rfl
@[simp] theorem den_mul : den .mul [.int i, .int j] = if (big64 i || big64 j) = true then some (.val (.int (i * j))) else none := rfl
@[simp] theorem den_fdiv : den .fdiv [.int i, .int j] = if 0 < j ∧ j < 1073741824 then some (.val (.int (i / j))) else none := rfl
@[simp] theorem den_mod : den .mod [.int i, .int j] = if 0 < j then some (.val (.int (i % j))) else none := rfl
@[simp] theorem den_pow : den .pow [.int i, .int j] = if 0 ≤ j ∧ j ≤ 1000000 ∧ i.natAbs < 2 ^ 64 then some (.val (.int (i ^ j.toNat))) else none := rfl
@[simp] theorem den_neg : den .neg [.int i] = some (.val (.int (-i))) := rfl
@[simp] theorem den_lt : den .lt [.int i, .int j] = some (.val (.bool (decide (i < j)))) := rfl
@[simp] theorem den_le : den .le [.int i, .int j] = some (.val (.bool (decide (i ≤ j)))) := rfl
@[simp] theorem den_gt : den .gt [.int i, .int j] = some (.val (.bool (decide (j < i)))) := rfl
@[simp] theorem den_ge : den .ge [.int i, .int j] = some (.val (.bool (decide (j ≤ i)))) := rfl
theorem eqD_int (i j : Int) : eqD (.int i) (.int j) = some (decide (i = j)) := by
  unfold eqD
  rw [if_pos (by rfl)]
  by_cases h : i = j
  · subst h; simp [PyData.eqv]
  · simp [PyData.eqv, h]
theorem eqD_str (i j : Str) : eqD (.str i) (.str j) = some (decide (i = j)) := by
  unfold eqD
  rw [if_pos (by rfl)]
  by_cases h : i = j
  · subst h; simp [PyData.eqv]
  · simp [PyData.eqv, h]
@[simp] theorem den_eq_i : den .eq [.int i, .int j] = some (.val (.bool (decide (i = j)))) := by show (eqD (.int i) (.int j)).map vB = _; rw [eqD_int]; rfl
@[simp] theorem den_eq_s : den .eq [.str a, .str b] = some (.val (.bool (decide (a = b)))) := by show (eqD (.str a) (.str b)).map vB = _; rw [eqD_str]; rfl
@[simp] theorem den_ne_i : den .ne [.int i, .int j] = some (.val (.bool (!decide (i = j)))) := by show (eqD (.int i) (.int j)).map (fun k => vB !k) = _; rw [eqD_int]; rfl
@[simp] theorem den_ne_s : den .ne [.str a, .str b] = some (.val (.bool (!decide (a = b)))) := by show (eqD (.str a) (.str b)).map (fun k => vB !k) = _; rw [eqD_str]; rfl
@[simp] theorem den_isN : den .isN [d] = some (.val (.bool (isNone d))) := rfl
@[simp] theorem den_notN : den .notN [d] = some (.val (.bool (!isNone d))) := rfl
@[simp] theorem isNone_n : isNone .none = true := rfl
@[simp] theorem isNone_i : isNone (.int i) = false := rfl
@[simp] theorem isNone_s : isNone (.str a) = false := rfl
@[simp] theorem isNone_l : isNone (.list xs) = false := rfl
@[simp] theorem isNone_t : isNone (.tuple xs) = false := rfl
@[simp] theorem den_ix_l : den .ix [.list xs, .int i] = (atI xs i).map Sl.val := rfl
@[simp] theorem den_ix_t : den .ix [.tuple xs, .int i] = (atI xs i).map Sl.val := rfl
@[simp] theorem den_ix_s : den .ix [.str a, .int i] = if lineB a.length then (atI a.cps.toList i).map fun c => .val (.str ⟨#[c]⟩) else none := rfl
theorem atI_n {α : Type} (l : List α) (n : Nat) : atI l (n : Int) = l[n]? := by
  unfold atI ixN
  rw [if_pos (by omega)]
  by_cases h : n < l.length
  · rw [if_pos (by omega)]
    rfl
  · rw [if_neg (by omega), List.getElem?_eq_none (by omega)]
    rfl
@[simp] theorem atI_lit {α : Type} (l : List α) (n : Nat) : atI l (no_index (OfNat.ofNat n : Int)) = l[n]? := atI_n l n
@[simp] theorem atI_0 {α : Type} (l : List α) : atI l 0 = l[0]? := atI_n l 0
@[simp] theorem atI_1 {α : Type} (l : List α) : atI l 1 = l[1]? := atI_n l 1
@[simp] theorem den_tup (ds : List PyData) : den .tup ds = if lineB ds.length then some (.val (.tuple ds)) else none := rfl
@[simp] theorem den_lst (ds : List PyData) : den .lst ds = if lineB ds.length then some (.lst ds) else none := rfl
@[simp] theorem den_len_l : den .len [.list xs] = some (.val (.int xs.length)) := rfl
@[simp] theorem den_len_t : den .len [.tuple xs] = some (.val (.int xs.length)) := rfl
@[simp] theorem den_len_s : den .len [.str a] = if lineB a.length then some (.val (.int a.length)) else none := rfl
@[simp] theorem den_all : den .all [.list xs] = (bitsOf xs).map fun bs => .val (.bool (bs.all id)) := rfl
@[simp] theorem den_any : den .any [.list xs] = (bitsOf xs).map fun bs => .val (.bool (bs.any id)) := rfl
@[simp] theorem den_abs : den .abs [.int i] = some (.val (.int (i.natAbs : Int))) := by
  show some (Sl.val (.int (if i < 0 then -i else i))) = _
  by_cases h : i < 0
  · rw [if_pos h]; congr 3; omega
  · rw [if_neg h]; congr 3; omega
@[simp] theorem den_sum : den .sum [.list xs] = (intsOf xs).map fun ns => .val (.int ns.sum) := rfl
@[simp] theorem den_tupleOf_l : den .tupleOf [.list xs] = some (.val (.tuple xs)) := rfl
@[simp] theorem den_tupleOf_t : den .tupleOf [.tuple xs] = some (.val (.tuple xs)) := rfl
@[simp] theorem den_listOf_l : den .listOf [.list xs] = some (.lst xs) := rfl
@[simp] theorem den_listOf_t : den .listOf [.tuple xs] = some (.lst xs) := rfl
@[simp] theorem den_sorted : den .sorted [.list xs] = (intsOf xs).map fun ns => .lst ((isortI ns).map PyData.int) := rfl
@[simp] theorem den_int_i : den .int [.int i] = some (.val (.int i)) := rfl
@[simp] theorem den_int_b (b : Bool) : den .int [.bool b] = some (.val (.int (if b then 1 else 0))) := rfl
@[simp] theorem den_str_i : den .str [.int i] = if i.natAbs.log2 < 1920 then some (.val (.str (Tx.numT i))) else none := rfl
@[simp] theorem den_min2 : den .min2 [.int i, .int j] = some (.val (.int (if j < i then j else i))) := rfl
@[simp] theorem den_max2 : den .max2 [.int i, .int j] = some (.val (.int (if j > i then j else i))) := rfl
@[simp] theorem den_isi (ts : List String) : den (.isi ts) [d] = some (.val (.bool (ts.any fun t => isiB d t))) := rfl
@[simp] theorem den_rev : den .rev [.list xs] = some (.lst xs.reverse) := rfl
@[simp] theorem den_sl10_l : den .sl10 [.list xs, .int i] = some (.lst (cutD xs (some i) none)) := rfl
@[simp] theorem den_sl01_l : den .sl01 [.list xs, .int i] = some (.lst (cutD xs none (some i))) := rfl
@[simp] theorem den_sl10_t : den .sl10 [.tuple xs, .int i] = some (.val (.tuple (cutD xs (some i) none))) := rfl
@[simp] theorem den_sl01_t : den .sl01 [.tuple xs, .int i] = some (.val (.tuple (cutD xs none (some i)))) := rfl
@[simp] theorem den_sl10_s : den .sl10 [.str a, .int i] = if lineB a.length then some (.val (.str (cutS a (some i) none))) else none := rfl
@[simp] theorem den_sl01_s : den .sl01 [.str a, .int i] = if lineB a.length then some (.val (.str (cutS a none (some i)))) else none := rfl
theorem inD_strs (s : Str) (l : List Str) : inD (.str s) (.list (l.map .str)) = some (decide (s ∈ l)) := by
  have hf : (l.map PyData.str).all flatD = true := by simp [flatD]
  show (if (flatD (.str s) && (l.map PyData.str).all flatD || _) = true then some ((l.map PyData.str).any fun z => PyData.eqv z (.str s)) else none) = _
  rw [hf, if_pos (by rfl), List.any_map]
  congr 1
  induction l with
  | nil => rfl
  | cons a l ih =>
    have e : PyData.eqv (.str a) (.str s) = decide (s = a) := by
      by_cases h : a = s
      · subst h; simp [PyData.eqv]
      · have h2 : ¬ s = a := fun z => h z.symm
        simp [PyData.eqv, h, h2]
    have i := ih (by simp [flatD])
    rw [List.any_cons, i]
    show (PyData.eqv (.str a) (.str s) || _) = _
    rw [e]
    simp
@[simp] theorem den_isin_ss (s : Str) (l : List Str) : den .isin [.str s, .list (l.map .str)] = some (.val (.bool (decide (s ∈ l)))) := by show (inD (.str s) (.list (l.map .str))).map vB = _; rw [inD_strs]; rfl
@[simp] theorem den_notin_ss (s : Str) (l : List Str) : den .notin [.str s, .list (l.map .str)] = some (.val (.bool (!decide (s ∈ l)))) := by show (inD (.str s) (.list (l.map .str))).map (fun k => vB !k) = _; rw [inD_strs]; rfl
@[simp] theorem den_join_l (l : List Str) : den .join [.str a, .list (l.map .str)] = if (l.map (·.length)).sum + l.length * a.length ≤ 16777216 then some (.val (.str (Txt.join a l))) else none := by
  show dJoin [.str a, .list (l.map .str)] = _
  simp [dJoin, seqD]
@[simp] theorem den_split : den .split [.str a, .str b] = if (b.length == 0) = false ∧ a.length + 2 ≤ 16777216 then some (.lst ((Txt.split a b).map PyData.str)) else none := by
  show dSplit [.str a, .str b] = _
  unfold dSplit
  rw [sizeLine_eq]
@[simp] theorem dRng_1 : dRng [.int j] = if j ≤ 1000000 ∧ -4611686018427387904 ≤ j then some (0, j.toNat) else none := rfl
@[simp] theorem dRng_2 : dRng [.int i, .int j] = if j - i ≤ 1000000 ∧ (-4611686018427387904 ≤ i ∧ i < 4611686018427387904 ∧ -4611686018427387904 ≤ j ∧ j < 4611686018427387904) then some (i, (j - i).toNat) else none := rfl
@[simp] theorem md_append : mden .append xs [d] = if xs.length < 16777216 then some (.none, xs ++ [d]) else none := by show mAppend xs [d] = _; unfold mAppend; rw [sizeLine_eq]
@[simp] theorem md_extend : mden .extend xs [.list ys] = if xs.length + ys.length ≤ 16777216 then some (.none, xs ++ ys) else none := by show mExtend xs [.list ys] = _; unfold mExtend; rw [sizeLine_eq]
@[simp] theorem md_clear : mden .clear xs [] = some (.none, []) := rfl
@[simp] theorem md_pop : mden .pop xs [] = xs.getLast?.map fun d => (d, xs.dropLast) := rfl
@[simp] theorem bitsOf_mapf {α : Type} (b : α → Bool) (l : List α) : bitsOf (l.map fun a => PyData.bool (b a)) = some (l.map b) := by
  induction l with
  | nil => rfl
  | cons n ns ih => simp [bitsOf, ih]
@[simp] theorem intsOf_mapf {α : Type} (b : α → Int) (l : List α) : intsOf (l.map fun a => PyData.int (b a)) = some (l.map b) := by
  induction l with
  | nil => rfl
  | cons n ns ih => simp [intsOf, ih]
@[simp] theorem den_isin_c (c : Nat) (z : Str) : den .isin [.str ⟨#[c]⟩, .str z] = some (.val (.bool (decide (c ∈ z.cps.toList)))) := rfl
end
end PyI

namespace PyI
open PySem PySem.Spec PyProof.Rows L2
/-! ## texts, plainly -/
namespace Tx
open TL
abbrev sp : Str := " "
abbrev lf : Str := "\n"
theorem tl_sp : tl sp = [32] := by decide
theorem tl_lf : tl lf = [10] := by decide
theorem tl_numT {i : Int} (h : 0 ≤ i) : tl (numT i) = numL i.toNat := by
  obtain ⟨n, rfl⟩ := Int.eq_ofNat_of_zero_le h
  exact tl_num n
theorem numT_len {i : Int} (h0 : 0 ≤ i) (h : i ≤ 10 ^ 30) : (numT i).length ≤ 31 := by
  rw [len_tl, tl_numT h0]
  exact numL_len (by decide) (by omega)
theorem numT_pos {i : Int} (h0 : 0 ≤ i) : 1 ≤ (numT i).length := by
  rw [len_tl, tl_numT h0]
  have := numL_ne i.toNat
  cases q : numL i.toNat with
  | nil => exact absurd q this
  | cons _ _ => simp
theorem numT_sign {i : Int} (h0 : 0 ≤ i) : ∀ c ∈ tl (numT i), 48 ≤ c ∧ c ≤ 57 := by
  rw [tl_numT h0]
  exact fun c h => numL_digits _ c h
theorem numL_zero (n : Nat) : ∀ r, numL n = 48 :: r → n = 0 := by
  induction n using Nat.strongRecOn with
  | _ n ih =>
    intro r h
    by_cases l : n < 10
    · rw [numL_lt l] at h
      simp at h
      exact h.1
    · rw [numL_step (by omega)] at h
      cases q : numL (n / 10) with
      | nil => exact absurd q (numL_ne _)
      | cons a b =>
        rw [q] at h
        simp at h
        have := ih (n / 10) (by omega) b (by rw [q, h.1])
        omega
theorem numT_int {i : Int} (h0 : 0 ≤ i) (h : i ≤ 10 ^ 30) : PySem.intText? (numT i) = some i := by
  have l := numT_len h0 h
  rw [len_tl, tl_numT h0] at l
  obtain ⟨n, rfl⟩ := Int.eq_ofNat_of_zero_le h0
  exact int_num (n := n) (by simpa using (by simp at l; omega : (numL n).length ≤ 4300))
/-- a joined text -/
theorem join_cons {y a b : Str} {r : List Str} : Txt.join y (a :: b :: r) = a ++ y ++ Txt.join y (b :: r) := by
  rw [join_eq, join_eq]
  rfl
theorem join_one {y a : Str} : Txt.join y [a] = a := by rw [join_eq]; rfl
theorem split_sp {parts : List Str} (h : parts ≠ []) (hp : ∀ p ∈ parts, 32 ∉ tl p) : Txt.split (Txt.join sp parts) sp = parts := split_join (S := []) tl_sp (by decide +kernel) h hp
theorem split_lf {parts : List Str} (h : parts ≠ []) (hp : ∀ p ∈ parts, 10 ∉ tl p) : Txt.split (Txt.join lf parts) lf = parts := split_join (S := []) tl_lf (by decide +kernel) h hp
theorem mem_join {c : Nat} {y : Str} : ∀ {parts : List Str}, c ∈ tl (Txt.join y parts) → c ∈ tl y ∨ ∃ p ∈ parts, c ∈ tl p
  | [], h => by rw [join_eq] at h; cases (show c ∈ ([] : List Nat) from h)
  | [p], h => by rw [join_one] at h; exact .inr ⟨p, by simp, h⟩
  | a :: b :: r, h => by
    rw [join_cons, tl_append, tl_append, List.mem_append, List.mem_append] at h
    rcases h with (h | h) | h
    · exact .inr ⟨a, by simp, h⟩
    · exact .inl h
    · rcases mem_join h with h | ⟨p, h1, h2⟩
      · exact .inl h
      · exact .inr ⟨p, by simp at h1 ⊢; exact .inr h1, h2⟩
theorem len_join (y : Str) : ∀ parts : List Str, (Txt.join y parts).length ≤ (parts.map (·.length)).sum + parts.length * y.length
  | [] => by rw [join_eq]; exact Nat.zero_le _
  | [p] => by rw [join_one]; simp
  | a :: b :: r => by
    have := len_join y (b :: r)
    rw [join_cons, len_tl, tl_append, tl_append]
    simp only [List.length_append, ← len_tl, List.map_cons, List.sum_cons, List.length_cons] at this ⊢
    have e : (r.length + 1 + 1) * y.length = (r.length + 1) * y.length + y.length := by rw [Nat.add_mul, Nat.one_mul]
    omega
/-- a name -/
def Nm (s : Str) : Prop := 1 ≤ s.length ∧ s.length ≤ 8 ∧ ∀ c ∈ tl s, 97 ≤ c ∧ c ≤ 122
theorem Nm.free {s : Str} (h : Nm s) {c : Nat} (hc : c < 97) : c ∉ tl s := fun z => by have := h.2.2 c z; omega
def NamesOk (names : List Str) : Prop := names.Nodup ∧ ∀ s ∈ names, Nm s
end Tx
end PyI

namespace PyI
open PySem PySem.Spec PyProof.Rows L2
theorem isort_perm (ns : List Int) : (isortI ns).Perm ns := List.mergeSort_perm _ _
theorem isort_sorted (ns : List Int) : (isortI ns).Pairwise (· ≤ ·) := by
  have := List.pairwise_mergeSort (le := fun a b : Int => decide (a ≤ b)) (by simp; omega) (by simp; omega) ns
  simpa [isortI] using this
theorem isort_of {ns : List Int} (h : ns.Pairwise (· ≤ ·)) : isortI ns = ns := List.mergeSort_of_pairwise (by simpa using h)
theorem isort_idem (ns : List Int) : isortI (isortI ns) = isortI ns := isort_of (isort_sorted ns)
/-- words that were met to the name j -/
def Met (j : Int) (ws : List Int) : Prop := (∀ w ∈ ws, w ≠ 0 ∧ (w.natAbs : Int) ≤ j) ∧ (ws.map Int.natAbs).Nodup
theorem Met.perm {j : Int} {ws ws' : List Int} (h : Met j ws) (p : ws'.Perm ws) : Met j ws' := ⟨fun w z => h.1 w (p.mem_iff.mp z), (p.map _).nodup_iff.mpr h.2⟩
/-- the words of an either-or -/
def WordsOk (n : Int) (ws : List Int) : Prop := Met n ws ∧ isortI ws = ws
inductive Rl where
  | ors (ws : List Int)
  | few (c : Int) (ns : List Int)
  | nt (k : Int)
def Rl.d : Rl → PyData
  | .ors ws => .tuple [.str "or", .tuple (ws.map .int)]
  | .few c ns => .tuple [.str "few", .int c, .tuple (ns.map .int)]
  | .nt k => .tuple [.str "not", .int k]
def NumsOk (cnt : Int) (ns : List Int) : Prop := ns.Pairwise (· < ·) ∧ ∀ x ∈ ns, 0 ≤ x ∧ x < cnt
def RlOk (n cnt : Int) : Rl → Prop
  | .ors ws => WordsOk n ws
  | .few c ns => 0 ≤ c ∧ c ≤ 24 ∧ NumsOk cnt ns
  | .nt k => 0 ≤ k ∧ k < cnt
def AllOk (n : Nat) (rs : List Rl) : Prop := ∀ (i : Nat) (r : Rl), rs[i]? = some r → RlOk n i r
theorem NumsOk.snoc {i : Nat} {ns : List Int} (h : NumsOk i ns) : NumsOk ((i + 1 : Nat) : Int) (ns ++ [(i : Int)]) := by
  refine ⟨List.pairwise_append.mpr ⟨h.1, by simp, fun a ha b hb => ?_⟩, fun x hx => ?_⟩
  · simp at hb
    subst hb
    exact (h.2 a ha).2
  · rcases List.mem_append.mp hx with hx | hx
    · have := h.2 x hx
      omega
    · simp at hx
      subst hx
      omega
theorem NumsOk.more {i : Nat} {ns : List Int} (h : NumsOk i ns) : NumsOk ((i + 1 : Nat) : Int) ns := ⟨h.1, fun x hx => by have := h.2 x hx; omega⟩
theorem AllOk.snoc {n : Nat} {rs : List Rl} {r : Rl} (h : AllOk n rs) (hr : RlOk n rs.length r) : AllOk n (rs ++ [r]) := fun i r' e => by
  by_cases hi : i < rs.length
  · rw [List.getElem?_append_left hi] at e
    exact h i r' e
  · have he : i < (rs ++ [r]).length := (List.getElem?_eq_some_iff.mp e).1
    have : i = rs.length := by simp at he; omega
    subst this
    simp at e
    subst e
    exact hr
structure Ws where
  no : Int
  rank : Int
  heavy : Int
def Ws.d (w : Ws) : PyData := .tuple [.int w.no, .int w.rank, .int w.heavy]
def WsOk (cnt : Int) (w : Ws) : Prop := 0 ≤ w.no ∧ w.no < cnt ∧ 1 ≤ w.rank ∧ w.rank ≤ 4 ∧ 1 ≤ w.heavy ∧ w.heavy ≤ 10 ^ 30
namespace Tx
open TL
/-! ## written -/
def wordT (names : List Str) (w : Int) : Str := (if 0 < w then ("" : Str) else "-") ++ names.getD (w.natAbs - 1) ""
def ruleT (names : List Str) : Rl → Str
  | .ors ws => Txt.join sp ("or" :: ws.map (wordT names))
  | .few c ns => Txt.join sp ("few" :: numT c :: ns.map numT)
  | .nt k => "not " ++ numT k
def mustsT (ms : List Int) : Str := Txt.join sp ("musts" :: ms.map numT)
def wishT (w : Ws) : Str := Txt.join sp ["wish", numT w.no, numT w.rank, numT w.heavy]
def rowsT (names : List Str) (rs : List Rl) (ms : List Int) (ws : List Ws) : List Str := Txt.join sp ("names" :: names) :: (rs.map (ruleT names) ++ mustsT ms :: ws.map wishT)
/-! ## read -/
def optD : Option Int → PyData
  | none => .none
  | some i => .int i
def rdNum (w : Str) : Option Int := if 1 ≤ w.length ∧ w.length ≤ 60 ∧ (∀ c ∈ tl w, 48 ≤ c ∧ c ≤ 57) ∧ ¬ ((tl w).head? = some 48 ∧ w ≠ "0") then some (NumText.digitsVal (tl w) : Nat) else none
/-- without its first sign -/
def bareT (t : Str) : Str := ⟨(tl t).tail.toArray⟩
def rdWord (names : List Str) (t : Str) : Option Int := match names.findIdx? (fun z => decide (z = t)) with
  | some i => some (i + 1)
  | none => if (tl t).head? = some 45 then (names.findIdx? (fun z => decide (z = bareT t))).map fun (i : Nat) => -1 - (i : Int) else none
def allS : List (Option Int) → Option (List Int)
  | [] => some []
  | none :: _ => none
  | some i :: r => (allS r).map (i :: ·)
theorem allS_some : ∀ ns : List Int, allS (ns.map some) = some ns
  | [] => rfl
  | n :: ns => by simp [allS, allS_some ns]
inductive Raw where
  | no
  | ors (l : List (Option Int))
  | few (c : Option Int) (l : List (Option Int))
  | nt (k : Option Int)
def Raw.d : Raw → PyData
  | .no => .none
  | .ors l => .tuple [.str "or", .list (l.map optD)]
  | .few c l => .tuple [.str "few", optD c, .list (l.map optD)]
  | .nt k => .tuple [.str "not", optD k]
def rowRule (names : List Str) (words : List Str) : Raw := match words with
  | [] => .no
  | w :: r => if w = "or" then .ors (r.map (rdWord names)) else
    match r.map rdNum with
    | [] => .no
    | a :: l => if w = "few" then .few a l else if w = "not" ∧ l = [] then .nt a else .no
def inB (i : Option Int) (lo hi : Int) : Bool := match i with
  | some i => decide (lo ≤ i ∧ i ≤ hi)
  | none => false
def madeWords (n : Int) (l : List (Option Int)) : Option (List Int) := match allS l with
  | some ws => if (∀ w ∈ ws, -n ≤ w ∧ w ≤ n ∧ w ≠ 0) ∧ (ws.map Int.natAbs).Nodup then some (isortI ws) else none
  | none => none
def madeNums (cnt : Int) (l : List (Option Int)) : Option (List Int) := match allS l with
  | some ns => if (∀ x ∈ ns, 0 ≤ x ∧ x ≤ cnt - 1) ∧ ns.Nodup then some (isortI ns) else none
  | none => none
def madeRule (n : Int) (raw : Raw) (cnt : Int) : Option Rl := if 24 ≤ cnt then none else match raw with
  | .no => none
  | .ors l => (madeWords n l).map .ors
  | .few c l => if inB c 0 24 = true then (madeNums cnt l).bind fun ns => c.map fun c => .few c ns else none
  | .nt k => if inB k 0 (cnt - 1) = true then k.map .nt else none
def optR : Option Rl → PyData
  | none => .none
  | some r => r.d
def ruleRead (names : List Str) (row : Str) (cnt : Int) : Option Rl := match madeRule names.length (rowRule names (Txt.split row sp)) cnt with
  | some r => if ruleT names r = row then some r else none
  | none => none
def risesB : List Int → Bool
  | [] => true
  | [_] => true
  | a :: b :: r => decide (a < b) && risesB (b :: r)
def mustsRead (row : Str) (cnt : Int) : Option (List Int) := match Txt.split row sp with
  | [] => none
  | w :: r => match allS (r.map rdNum) with
    | some ns => if w = "musts" ∧ (∀ x ∈ ns, 0 ≤ x ∧ x ≤ cnt - 1) ∧ risesB ns = true then some ns else none
    | none => none
def mkWish (cnt : Int) (a b c : Option Int) : Option Ws := if (inB a 0 (cnt - 1) && (inB b 1 4 && inB c 1 (10 ^ 30))) = true then a.bind fun a => b.bind fun b => c.map fun c => ⟨a, b, c⟩ else none
def wishRead (row : Str) (cnt : Int) : Option Ws := match Txt.split row sp with
  | [w, a, b, c] => if w = "wish" then mkWish cnt (rdNum a) (rdNum b) (rdNum c) else none
  | _ => none
/-! ## what is written is read -/
theorem num_back {i : Int} (h0 : 0 ≤ i) (h : i ≤ 10 ^ 30) : rdNum (numT i) = some i := by
  have t := tl_numT h0
  have l := numT_len h0 h
  have l2 : (numT i).length ≤ 60 := by omega
  have nz : ¬ ((tl (numT i)).head? = some 48 ∧ numT i ≠ "0") := by
    rintro ⟨z1, z2⟩
    rw [t] at z1
    cases q : numL i.toNat with
    | nil => exact absurd q (numL_ne _)
    | cons a b =>
      rw [q] at z1
      have z1 : a = 48 := by simpa using z1
      subst z1
      have e := numL_zero _ _ q
      have : i = 0 := by omega
      subst this
      exact z2 (by decide +kernel)
  unfold rdNum
  rw [if_pos ⟨numT_pos h0, l2, numT_sign h0, nz⟩, t, numL_val]
  congr 1
  omega
theorem nums_back {ns : List Int} (h : ∀ x ∈ ns, 0 ≤ x ∧ x ≤ 10 ^ 30) : (ns.map numT).map rdNum = ns.map some := by
  rw [List.map_map]
  exact List.map_congr_left fun x hx => num_back (h x hx).1 (h x hx).2
theorem numT_free {i : Int} (h0 : 0 ≤ i) {c : Nat} (h : c < 48 ∨ 57 < c) : c ∉ tl (numT i) := fun z => by
  have := numT_sign h0 c z
  omega
theorem findIdx_nodup {α : Type} [DecidableEq α] : ∀ {l : List α} {i : Nat} {a : α}, l.Nodup → l[i]? = some a → l.findIdx? (fun z => decide (z = a)) = some i
  | [], _, _, _, h => by simp at h
  | b :: l, 0, a, _, h => by
    simp at h
    subst h
    simp [List.findIdx?_cons]
  | b :: l, i + 1, a, nd, h => by
    have h' : l[i]? = some a := by simpa using h
    have nd' := List.nodup_cons.mp nd
    have ne : b ≠ a := fun e => nd'.1 (e ▸ List.mem_of_getElem? h')
    rw [List.findIdx?_cons]
    simp [ne, findIdx_nodup nd'.2 h']
theorem word_back {names : List Str} (hn : NamesOk names) {w : Int} (h0 : w ≠ 0) (h : w.natAbs ≤ names.length) : rdWord names (wordT names w) = some w := by
  have hi : w.natAbs - 1 < names.length := by omega
  have hg : names[w.natAbs - 1]? = some names[w.natAbs - 1] := List.getElem?_eq_getElem hi
  have hm : names[w.natAbs - 1] ∈ names := List.getElem_mem hi
  have ed : names.getD (w.natAbs - 1) "" = names[w.natAbs - 1] := by simp [List.getD, hg]
  unfold rdWord wordT
  rw [ed]
  by_cases c : 0 < w
  · rw [if_pos c]
    have e : ("" : Str) ++ names[w.natAbs - 1] = names[w.natAbs - 1] := ext_tl (by rw [tl_append]; rfl)
    rw [e, findIdx_nodup hn.1 hg]
    simp
    omega
  · rw [if_neg c]
    have t : tl (("-" : Str) ++ names[w.natAbs - 1]) = 45 :: tl names[w.natAbs - 1] := by
      rw [tl_append]
      rfl
    have nf : names.findIdx? (fun z => decide (z = ("-" : Str) ++ names[w.natAbs - 1])) = none := by
      rw [List.findIdx?_eq_none_iff]
      intro z hz
      simp only [decide_eq_false_iff_not]
      intro e
      have := (hn.2 z hz).free (c := 45) (by decide)
      rw [e, t] at this
      simp at this
    have eb : bareT (("-" : Str) ++ names[w.natAbs - 1]) = names[w.natAbs - 1] := ext_tl (by
      show (tl (("-" : Str) ++ names[w.natAbs - 1])).tail = _
      rw [t]
      rfl)
    rw [nf, eb, t, findIdx_nodup hn.1 hg]
    show some (-1 - ((w.natAbs - 1 : Nat) : Int)) = some w
    congr 1
    omega
end Tx
end PyI

namespace PyI
open PySem PySem.Spec PyProof.Rows L2
namespace Tx
open TL
theorem wordT_free {names : List Str} (hn : NamesOk names) (w : Int) {c : Nat} (hc : c < 97) (h45 : c ≠ 45) : c ∉ tl (wordT names w) := by
  unfold wordT
  rw [tl_append]
  have h1 : c ∉ tl (if 0 < w then ("" : Str) else "-") := by
    split
    · exact List.not_mem_nil
    · show c ∉ [45]
      simp [h45]
  have h2 : c ∉ tl (names.getD (w.natAbs - 1) "") := by
    by_cases h : w.natAbs - 1 < names.length
    · have : names.getD (w.natAbs - 1) "" = names[w.natAbs - 1] := by simp [List.getD, h]
      rw [this]
      exact (hn.2 _ (List.getElem_mem h)).free hc
    · have : names.getD (w.natAbs - 1) "" = "" := by simp [List.getD, h]
      rw [this]
      exact List.not_mem_nil
  simp only [List.mem_append, not_or]
  exact ⟨h1, h2⟩
theorem or_free : 32 ∉ tl ("or" : Str) := by decide
theorem few_free : 32 ∉ tl ("few" : Str) := by decide
theorem not_free : 32 ∉ tl ("not" : Str) := by decide
theorem musts_free : 32 ∉ tl ("musts" : Str) := by decide
theorem wish_free : 32 ∉ tl ("wish" : Str) := by decide
theorem names_free : 32 ∉ tl ("names" : Str) := by decide
theorem few_or : ("few" : Str) ≠ "or" := by decide +kernel
theorem not_or' : ("not" : Str) ≠ "or" := by decide +kernel
theorem not_few : ("not" : Str) ≠ "few" := by decide +kernel
theorem nums_free {ns : List Int} (h : ∀ x ∈ ns, 0 ≤ x) {c : Nat} (hc : c < 48 ∨ 57 < c) : ∀ p ∈ ns.map numT, c ∉ tl p := fun p hp => by
  obtain ⟨x, hx, rfl⟩ := List.mem_map.mp hp
  exact numT_free (h x hx) hc
theorem not_join (k : Int) : ("not " : Str) ++ numT k = Txt.join sp ["not", numT k] := by
  rw [join_cons, join_one]
  exact ext_tl (by simp only [tl_append]; rfl)
/-- the words of a written rule -/
def ruleW (names : List Str) : Rl → List Str
  | .ors ws => "or" :: ws.map (wordT names)
  | .few c ns => "few" :: numT c :: ns.map numT
  | .nt k => ["not", numT k]
theorem ruleT_W (names : List Str) (r : Rl) : ruleT names r = Txt.join sp (ruleW names r) := by
  cases r with
  | ors ws => rfl
  | few c ns => rfl
  | nt k => exact not_join k
theorem ruleW_free {names : List Str} (hn : NamesOk names) {n cnt : Int} {r : Rl} (h : RlOk n cnt r) : ∀ p ∈ ruleW names r, 32 ∉ tl p ∧ 10 ∉ tl p := by
  cases r with
  | ors ws =>
    intro p hp
    rcases List.mem_cons.mp hp with rfl | hp
    · decide
    · obtain ⟨w, _, rfl⟩ := List.mem_map.mp hp
      exact ⟨wordT_free hn w (by decide) (by decide), wordT_free hn w (by decide) (by decide)⟩
  | few c ns =>
    intro p hp
    rcases List.mem_cons.mp hp with rfl | hp
    · decide
    · rcases List.mem_cons.mp hp with rfl | hp
      · exact ⟨numT_free h.1 (by decide), numT_free h.1 (by decide)⟩
      · exact ⟨nums_free (fun x hx => (h.2.2.2 x hx).1) (by decide) p hp, nums_free (fun x hx => (h.2.2.2 x hx).1) (by decide) p hp⟩
  | nt k =>
    intro p hp
    rcases List.mem_cons.mp hp with rfl | hp
    · decide
    · rw [List.mem_singleton.mp hp]
      exact ⟨numT_free h.1 (by decide), numT_free h.1 (by decide)⟩
theorem ruleW_ne (names : List Str) (r : Rl) : ruleW names r ≠ [] := by cases r <;> simp [ruleW]
theorem nodup_lt {ns : List Int} (h : ns.Pairwise (· < ·)) : ns.Nodup := h.imp (fun h => by omega)
theorem sorted_lt {ns : List Int} (h : ns.Pairwise (· < ·)) : isortI ns = ns := isort_of (h.imp (fun h => by omega))
theorem rule_back {names : List Str} (hn : NamesOk names) {cnt : Int} {r : Rl} (h : RlOk names.length cnt r) (hc : cnt < 24) (h0 : 0 ≤ cnt) : ruleRead names (ruleT names r) cnt = some r := by
  have sp' : Txt.split (ruleT names r) sp = ruleW names r := by
    rw [ruleT_W]
    exact split_sp (ruleW_ne names r) fun p hp => (ruleW_free hn h p hp).1
  have made : madeRule names.length (rowRule names (ruleW names r)) cnt = some r := by
    unfold madeRule
    rw [if_neg (by omega)]
    cases r with
    | ors ws =>
      have e : (ws.map (wordT names)).map (rdWord names) = ws.map some := by
        rw [List.map_map]
        exact List.map_congr_left fun w hw => word_back hn (h.1.1 w hw).1 (by have := (h.1.1 w hw).2; omega)
      simp only [ruleW, rowRule, if_true, e, madeWords, allS_some]
      rw [if_pos ⟨fun w hw => by have := h.1.1 w hw; omega, h.1.2⟩, h.2]
      rfl
    | few c ns =>
      have e : (ns.map numT).map rdNum = ns.map some := nums_back fun x hx => by have := h.2.2.2 x hx; omega
      have c1 : rdNum (numT c) = some c := num_back h.1 (by have := h.2.1; omega)
      simp only [ruleW, rowRule, if_neg few_or, List.map_cons, e, c1, if_true, inB, madeNums, allS_some]
      rw [if_pos (by simp; exact ⟨h.1, h.2.1⟩), if_pos ⟨fun x hx => by have := h.2.2.2 x hx; omega, nodup_lt h.2.2.1⟩, sorted_lt h.2.2.1]
      rfl
    | nt k =>
      have c1 : rdNum (numT k) = some k := num_back h.1 (by have := h.2; omega)
      have ib : inB (some k) 0 (cnt - 1) = true := by
        have := h.1
        have := h.2
        simp only [inB, decide_eq_true_eq]
        omega
      simp only [ruleW, rowRule, if_neg not_or', List.map_cons, List.map_nil, c1, if_neg not_few]
      rw [if_pos ⟨trivial, trivial⟩]
      show (if inB (some k) 0 (cnt - 1) = true then (some k).map Rl.nt else none) = some (.nt k)
      rw [if_pos ib]
      rfl
  unfold ruleRead
  rw [sp', made]
  simp
theorem rises_of : ∀ {ns : List Int}, ns.Pairwise (· < ·) → risesB ns = true
  | [], _ => rfl
  | [_], _ => rfl
  | a :: b :: r, h => by
    have h' := List.pairwise_cons.mp h
    simp [risesB, h'.1 b (by simp), rises_of h'.2]
theorem musts_back {cnt : Int} {ms : List Int} (h : NumsOk cnt ms) (hc : cnt ≤ 1000) : mustsRead (mustsT ms) cnt = some ms := by
  have e : (ms.map numT).map rdNum = ms.map some := nums_back fun x hx => by have := h.2 x hx; omega
  unfold mustsRead mustsT
  rw [split_sp (by simp) fun p hp => by
    rcases List.mem_cons.mp hp with rfl | hp
    · exact musts_free
    · exact nums_free (fun x hx => (h.2 x hx).1) (by decide) p hp]
  simp only [e, allS_some]
  rw [if_pos ⟨trivial, fun x hx => by have := h.2 x hx; omega, rises_of h.1⟩]
theorem wish_back {cnt : Int} {w : Ws} (h : WsOk cnt w) (hc : cnt ≤ 1000) : wishRead (wishT w) cnt = some w := by
  obtain ⟨h1, h2, h3, h4, h5, h6⟩ := h
  unfold wishRead wishT
  rw [split_sp (by simp) fun p hp => by
    simp at hp
    rcases hp with rfl | rfl | rfl | rfl
    · exact wish_free
    · exact numT_free h1 (by decide)
    · exact numT_free (by omega) (by decide)
    · exact numT_free (by omega) (by decide)]
  simp only [num_back h1 (by omega), num_back (i := w.rank) (by omega) (by omega), num_back (i := w.heavy) (by omega) h6]
  rw [if_pos trivial]
  unfold mkWish
  rw [if_pos (by simp only [inB, Bool.and_eq_true, decide_eq_true_eq]; exact ⟨⟨h1, by omega⟩, ⟨h3, h4⟩, ⟨h5, h6⟩⟩)]
  rfl
/-- no row has a line feed -/
theorem row_free {ps : List Str} (h : ∀ p ∈ ps, 10 ∉ tl p) : 10 ∉ tl (Txt.join sp ps) := fun z => by
  rcases mem_join z with z | ⟨p, h1, h2⟩
  · rw [tl_sp] at z
    simp at z
  · exact h p h1 h2
end Tx
end PyI

namespace PyI
open PySem PySem.Spec PyProof.Rows L2
namespace M71
def top (i : Nat) : Stmt := PySem.Challenge.pw_wishdues_k71_houses_written_and_read.main.body.getD i (.Pass ⟨0, 0, 0, 0⟩)
def ir_is_whole : S := (.seq (.ret (.and (.prim (.isi ["int"]) [(.pl 0)]) (.not (.prim (.isi ["bool"]) [(.pl 0)])))) .next)
def d_is_whole : DI := ⟨"is_whole", ["thing"], ["thing"], false, defArgs (top 6), defBody (top 6), defScope (top 6), ir_is_whole⟩
def ir_is_row : S := (.seq (.ret (.prim (.isi ["list", "tuple"]) [(.pl 0)])) .next)
def d_is_row : DI := ⟨"is_row", ["thing"], ["thing"], false, defArgs (top 7), defBody (top 7), defScope (top 7), ir_is_row⟩
def ir_is_number_in : S := (.seq (.ret (.and (.call "is_whole" [(.v 0)]) (.chain .le .le (.v 1) (.v 0) (.v 2)))) .next)
def d_is_number_in : DI := ⟨"is_number_in", ["thing", "low", "high"], ["thing", "low", "high"], false, defArgs (top 8), defBody (top 8), defScope (top 8), ir_is_number_in⟩
def ir_made_words : S := (.seq (.ite (.or (.not (.call "is_row" [(.v 1)])) (.not (.prim .all [(.ex (.comp (.seq (.v 1)) (.one 3) none (.and (.call "is_number_in" [(.v 3), (.prim .neg [(.pl 0)]), (.v 0)]) (.prim .ne [(.pl 3), (.ex (.c (.int (0))))])) [2, 3]))]))) (.seq (.ret (.c .none)) .next)
  .next) (.seq (.ite (.prim .lt [(.ex (.prim .lenset [(.ex (.comp (.seq (.v 1)) (.one 3) none (.prim .abs [(.pl 3)]) [2, 3]))])), (.ex (.prim .len [(.pl 1)]))]) (.seq (.ret (.c .none)) .next)
  .next) (.seq (.ret (.prim .tupleOf [(.ex (.prim .sorted [(.pl 1)]))])) .next)))
def d_made_words : DI := ⟨"made_words", ["n", "thing"], ["n", "thing", ".0", "word"], false, defArgs (top 9), defBody (top 9), defScope (top 9), ir_made_words⟩
def ir_made_numbers : S := (.seq (.ite (.or (.not (.call "is_row" [(.v 0)])) (.not (.prim .all [(.ex (.comp (.seq (.v 0)) (.one 3) none (.call "is_number_in" [(.v 3), (.c (.int (0))), (.prim .sub [(.pl 1), (.ex (.c (.int (1))))])]) [2, 3]))]))) (.seq (.ret (.c .none)) .next)
  .next) (.seq (.ite (.prim .lt [(.ex (.prim .lenset [(.pl 0)])), (.ex (.prim .len [(.pl 0)]))]) (.seq (.ret (.c .none)) .next)
  .next) (.seq (.ret (.prim .tupleOf [(.ex (.prim .sorted [(.pl 0)]))])) .next)))
def d_made_numbers : DI := ⟨"made_numbers", ["thing", "count"], ["thing", "count", ".0", "number"], false, defArgs (top 10), defBody (top 10), defScope (top 10), ir_made_numbers⟩
def ir_made_either : S := (.seq (.ite (.prim .ne [(.ex (.prim .len [(.pl 1)])), (.ex (.c (.int (2))))]) (.seq (.ret (.c .none)) .next)
  .next) (.seq (.set 2 (.call "made_words" [(.v 0), (.prim .ix [(.pl 1), (.ex (.c (.int (1))))])])) (.seq (.ite (.prim .isN [(.pl 2)]) (.seq (.ret (.c .none)) .next)
  .next) (.seq (.ret (.prim .tup [(.ex (.c (.str "or"))), (.ex (.v 2))])) .next))))
def d_made_either : DI := ⟨"made_either", ["n", "thing"], ["n", "thing", "words"], false, defArgs (top 11), defBody (top 11), defScope (top 11), ir_made_either⟩
def ir_made_count : S := (.seq (.ite (.or (.prim .ne [(.ex (.prim .len [(.pl 0)])), (.ex (.c (.int (3))))]) (.not (.call "is_number_in" [(.prim .ix [(.pl 0), (.ex (.c (.int (1))))]), (.c (.int (0))), (.c (.int (24)))]))) (.seq (.ret (.c .none)) .next)
  .next) (.seq (.set 2 (.call "made_numbers" [(.prim .ix [(.pl 0), (.ex (.c (.int (2))))]), (.v 1)])) (.seq (.ite (.prim .isN [(.pl 2)]) (.seq (.ret (.c .none)) .next)
  .next) (.seq (.ret (.prim .tup [(.ex (.c (.str "few"))), (.ex (.prim .ix [(.pl 0), (.ex (.c (.int (1))))])), (.ex (.v 2))])) .next))))
def d_made_count : DI := ⟨"made_count", ["thing", "count"], ["thing", "count", "numbers"], false, defArgs (top 12), defBody (top 12), defScope (top 12), ir_made_count⟩
def ir_made_not : S := (.seq (.ite (.or (.prim .ne [(.ex (.prim .len [(.pl 0)])), (.ex (.c (.int (2))))]) (.not (.call "is_number_in" [(.prim .ix [(.pl 0), (.ex (.c (.int (1))))]), (.c (.int (0))), (.prim .sub [(.pl 1), (.ex (.c (.int (1))))])]))) (.seq (.ret (.c .none)) .next)
  .next) (.seq (.ret (.prim .tup [(.ex (.c (.str "not"))), (.ex (.prim .ix [(.pl 0), (.ex (.c (.int (1))))]))])) .next))
def d_made_not : DI := ⟨"made_not", ["thing", "count"], ["thing", "count"], false, defArgs (top 13), defBody (top 13), defScope (top 13), ir_made_not⟩
def ir_made_rule : S := (.seq (.ite (.or (.not (.call "is_row" [(.v 1)])) (.or (.prim .eq [(.ex (.prim .len [(.pl 1)])), (.ex (.c (.int (0))))]) (.or (.not (.prim (.isi ["str"]) [(.ex (.prim .ix [(.pl 1), (.ex (.c (.int (0))))]))])) (.prim .ge [(.pl 2), (.ex (.c (.int (24))))])))) (.seq (.ret (.c .none)) .next)
  .next) (.seq (.ite (.prim .eq [(.ex (.prim .ix [(.pl 1), (.ex (.c (.int (0))))])), (.ex (.c (.str "or")))]) (.seq (.ret (.call "made_either" [(.v 0), (.v 1)])) .next)
  .next) (.seq (.ite (.prim .eq [(.ex (.prim .ix [(.pl 1), (.ex (.c (.int (0))))])), (.ex (.c (.str "few")))]) (.seq (.ret (.call "made_count" [(.v 1), (.v 2)])) .next)
  .next) (.seq (.ite (.prim .eq [(.ex (.prim .ix [(.pl 1), (.ex (.c (.int (0))))])), (.ex (.c (.str "not")))]) (.seq (.ret (.call "made_not" [(.v 1), (.v 2)])) .next)
  .next) (.seq (.ret (.c .none)) .next)))))
def d_made_rule : DI := ⟨"made_rule", ["n", "thing", "count"], ["n", "thing", "count"], false, defArgs (top 14), defBody (top 14), defScope (top 14), ir_made_rule⟩
def ir_is_name : S := (.seq (.ret (.and (.chain .le .le (.c (.int (1))) (.prim .len [(.pl 0)]) (.c (.int (8)))) (.prim .all [(.ex (.comp (.seq (.v 0)) (.one 2) none (.prim .isin [(.pl 2), (.ex (.c (.str "abcdefghijklmnopqrstuvwxyz")))]) [1, 2]))]))) .next)
def d_is_name : DI := ⟨"is_name", ["text"], ["text", ".0", "sign"], false, defArgs (top 23), defBody (top 23), defScope (top 23), ir_is_name⟩
def ir_are_names : S := (.seq (.ret (.and (.prim .le [(.ex (.prim .len [(.pl 0)])), (.ex (.c (.int (8))))]) (.and (.prim .all [(.ex (.comp (.seq (.v 0)) (.one 2) none (.call "is_name" [(.v 2)]) [1, 2]))]) (.prim .eq [(.ex (.prim .lenset [(.pl 0)])), (.ex (.prim .len [(.pl 0)]))])))) .next)
def d_are_names : DI := ⟨"are_names", ["words"], ["words", ".0", "word"], false, defArgs (top 24), defBody (top 24), defScope (top 24), ir_are_names⟩
def ir_number_of : S := (.seq (.ite (.or (.not (.chain .le .le (.c (.int (1))) (.prim .len [(.pl 0)]) (.c (.int (60))))) (.not (.prim .all [(.ex (.comp (.seq (.v 0)) (.one 2) none (.prim .isin [(.pl 2), (.ex (.c (.str "0123456789")))]) [1, 2]))]))) (.seq (.ret (.c .none)) .next)
  .next) (.seq (.ite (.and (.prim .eq [(.ex (.prim .ix [(.pl 0), (.ex (.c (.int (0))))])), (.ex (.c (.str "0")))]) (.prim .ne [(.pl 0), (.ex (.c (.str "0")))])) (.seq (.ret (.c .none)) .next)
  .next) (.seq (.ret (.prim .int [(.pl 0)])) .next)))
def d_number_of : DI := ⟨"number_of", ["word"], ["word", ".0", "sign"], false, defArgs (top 25), defBody (top 25), defScope (top 25), ir_number_of⟩
def ir_word_text : S := (.seq (.ret (.prim .add [(.ex (.prim .ix [(.ex (.prim .lst [(.ex (.c (.str "-"))), (.ex (.c (.str "")))])), (.ex (.prim .int [(.ex (.prim .gt [(.pl 1), (.ex (.c (.int (0))))]))]))])), (.ex (.prim .ix [(.pl 0), (.ex (.prim .sub [(.ex (.prim .abs [(.pl 1)])), (.ex (.c (.int (1))))]))]))])) .next)
def d_word_text : DI := ⟨"word_text", ["names", "word"], ["names", "word"], false, defArgs (top 26), defBody (top 26), defScope (top 26), ir_word_text⟩
def ir_word_of : S := (.seq (.ite (.prim .isin [(.pl 1), (.pl 0)]) (.seq (.ret (.prim .add [(.ex (.meth .index (.pl 0) [(.v 1)])), (.ex (.c (.int (1))))])) .next)
  .next) (.seq (.ite (.and (.prim .eq [(.ex (.prim .sl01 [(.pl 1), (.ex (.c (.int (1))))])), (.ex (.c (.str "-")))]) (.prim .isin [(.ex (.prim .sl10 [(.pl 1), (.ex (.c (.int (1))))])), (.pl 0)])) (.seq (.ret (.prim .sub [(.ex (.prim .neg [(.ex (.c (.int (1))))])), (.ex (.meth .index (.pl 0) [(.prim .sl10 [(.pl 1), (.ex (.c (.int (1))))])]))])) .next)
  .next) (.seq (.ret (.c .none)) .next)))
def d_word_of : DI := ⟨"word_of", ["names", "text"], ["names", "text"], false, defArgs (top 27), defBody (top 27), defScope (top 27), ir_word_of⟩
def ir_rule_text : S := (.seq (.ite (.prim .eq [(.ex (.prim .ix [(.pl 1), (.ex (.c (.int (0))))])), (.ex (.c (.str "or")))]) (.seq (.ret (.meth .join (.ex (.c (.str " "))) [(.prim .add [(.ex (.prim .lst [(.ex (.c (.str "or")))])), (.ex (.comp (.seq (.prim .ix [(.pl 1), (.ex (.c (.int (1))))])) (.one 3) none (.call "word_text" [(.v 0), (.v 3)]) [2, 3]))])])) .next)
  .next) (.seq (.ite (.prim .eq [(.ex (.prim .ix [(.pl 1), (.ex (.c (.int (0))))])), (.ex (.c (.str "few")))]) (.seq (.ret (.meth .join (.ex (.c (.str " "))) [(.prim .add [(.ex (.prim .lst [(.ex (.c (.str "few"))), (.ex (.prim .str [(.ex (.prim .ix [(.pl 1), (.ex (.c (.int (1))))]))]))])), (.ex (.comp (.seq (.prim .ix [(.pl 1), (.ex (.c (.int (2))))])) (.one 4) none (.prim .str [(.pl 4)]) [2, 4]))])])) .next)
  .next) (.seq (.ret (.prim .add [(.ex (.c (.str "not "))), (.ex (.prim .str [(.ex (.prim .ix [(.pl 1), (.ex (.c (.int (1))))]))]))])) .next)))
def d_rule_text : DI := ⟨"rule_text", ["names", "rule"], ["names", "rule", ".0", "word", "number"], false, defArgs (top 28), defBody (top 28), defScope (top 28), ir_rule_text⟩
def ir_house_text : S := (.seq (.unp [2, 3, 4, 5] (.pl 1)) (.seq (.set 6 (.prim .add [(.ex (.prim .lst [(.ex (.meth .join (.ex (.c (.str " "))) [(.prim .add [(.ex (.prim .lst [(.ex (.c (.str "names")))])), (.ex (.prim .listOf [(.pl 0)]))])]))])), (.ex (.comp (.seq (.v 3)) (.one 9) none (.call "rule_text" [(.v 0), (.v 9)]) [8, 9]))])) (.seq (.expr (.mut .append 6 [(.meth .join (.ex (.c (.str " "))) [(.prim .add [(.ex (.prim .lst [(.ex (.c (.str "musts")))])), (.ex (.comp (.seq (.v 4)) (.one 10) none (.prim .str [(.pl 10)]) [8, 10]))])])])) (.seq (.forS (.seq (.v 5)) (.one 7) (.seq (.expr (.mut .append 6 [(.meth .join (.ex (.c (.str " "))) [(.prim .add [(.ex (.prim .lst [(.ex (.c (.str "wish")))])), (.ex (.comp (.seq (.v 7)) (.one 10) none (.prim .str [(.pl 10)]) [8, 10]))])])])) .next)) (.seq (.ret (.meth .join (.ex (.c (.str "\n"))) [(.v 6)])) .next)))))
def d_house_text : DI := ⟨"house_text", ["names", "house"], ["names", "house", "n", "rules", "musts", "wishes", "rows", "wish", ".0", "rule", "number"], false, defArgs (top 29), defBody (top 29), defScope (top 29), ir_house_text⟩
def ir_row_rule : S := (.seq (.ite (.prim .eq [(.ex (.prim .ix [(.pl 1), (.ex (.c (.int (0))))])), (.ex (.c (.str "or")))]) (.seq (.ret (.prim .tup [(.ex (.c (.str "or"))), (.ex (.comp (.seq (.prim .sl10 [(.pl 1), (.ex (.c (.int (1))))])) (.one 4) none (.call "word_of" [(.v 0), (.v 4)]) [3, 4]))])) .next)
  .next) (.seq (.set 2 (.comp (.seq (.prim .sl10 [(.pl 1), (.ex (.c (.int (1))))])) (.one 4) none (.call "number_of" [(.v 4)]) [3, 4])) (.seq (.ite (.and (.prim .eq [(.ex (.prim .ix [(.pl 1), (.ex (.c (.int (0))))])), (.ex (.c (.str "few")))]) (.prim .gt [(.ex (.prim .len [(.pl 2)])), (.ex (.c (.int (0))))])) (.seq (.ret (.prim .tup [(.ex (.c (.str "few"))), (.ex (.prim .ix [(.pl 2), (.ex (.c (.int (0))))])), (.ex (.prim .sl10 [(.pl 2), (.ex (.c (.int (1))))]))])) .next)
  .next) (.seq (.ite (.and (.prim .eq [(.ex (.prim .ix [(.pl 1), (.ex (.c (.int (0))))])), (.ex (.c (.str "not")))]) (.prim .eq [(.ex (.prim .len [(.pl 2)])), (.ex (.c (.int (1))))])) (.seq (.ret (.prim .tup [(.ex (.c (.str "not"))), (.ex (.prim .ix [(.pl 2), (.ex (.c (.int (0))))]))])) .next)
  .next) (.seq (.ret (.c .none)) .next)))))
def d_row_rule : DI := ⟨"row_rule", ["names", "words"], ["names", "words", "numbers", ".0", "word"], false, defArgs (top 30), defBody (top 30), defScope (top 30), ir_row_rule⟩
def ir_rule_read : S := (.seq (.set 3 (.call "made_rule" [(.prim .len [(.pl 0)]), (.call "row_rule" [(.v 0), (.meth .split (.pl 1) [(.c (.str " "))])]), (.v 2)])) (.seq (.ite (.or (.prim .isN [(.pl 3)]) (.prim .ne [(.ex (.call "rule_text" [(.v 0), (.v 3)])), (.pl 1)])) (.seq (.ret (.c .none)) .next)
  .next) (.seq (.ret (.v 3)) .next)))
def d_rule_read : DI := ⟨"rule_read", ["names", "row", "count"], ["names", "row", "count", "rule"], false, defArgs (top 31), defBody (top 31), defScope (top 31), ir_rule_read⟩
def ir_musts_read : S := (.seq (.set 2 (.meth .split (.pl 0) [(.c (.str " "))])) (.seq (.set 3 (.comp (.seq (.prim .sl10 [(.pl 2), (.ex (.c (.int (1))))])) (.one 5) none (.call "number_of" [(.v 5)]) [4, 5])) (.seq (.ite (.or (.prim .ne [(.ex (.prim .ix [(.pl 2), (.ex (.c (.int (0))))])), (.ex (.c (.str "musts")))]) (.not (.prim .all [(.ex (.comp (.seq (.v 3)) (.one 6) none (.call "is_number_in" [(.v 6), (.c (.int (0))), (.prim .sub [(.pl 1), (.ex (.c (.int (1))))])]) [4, 6]))]))) (.seq (.ret (.c .none)) .next)
  .next) (.seq (.ite (.not (.prim .all [(.ex (.comp (.zip (.v 3) (.prim .sl10 [(.pl 3), (.ex (.c (.int (1))))])) (.tup [7, 8]) none (.prim .lt [(.pl 7), (.pl 8)]) [4, 7, 8]))])) (.seq (.ret (.c .none)) .next)
  .next) (.seq (.ret (.prim .tupleOf [(.pl 3)])) .next)))))
def d_musts_read : DI := ⟨"musts_read", ["row", "count"], ["row", "count", "words", "numbers", ".0", "word", "number", "one", "other"], false, defArgs (top 32), defBody (top 32), defScope (top 32), ir_musts_read⟩
def ir_wish_read : S := (.seq (.set 2 (.meth .split (.pl 0) [(.c (.str " "))])) (.seq (.set 3 (.comp (.seq (.prim .sl10 [(.pl 2), (.ex (.c (.int (1))))])) (.one 5) none (.call "number_of" [(.v 5)]) [4, 5])) (.seq (.ite (.or (.prim .ne [(.ex (.prim .ix [(.pl 2), (.ex (.c (.int (0))))])), (.ex (.c (.str "wish")))]) (.or (.prim .ne [(.ex (.prim .len [(.pl 3)])), (.ex (.c (.int (3))))]) (.not (.call "is_number_in" [(.prim .ix [(.pl 3), (.ex (.c (.int (0))))]), (.c (.int (0))), (.prim .sub [(.pl 1), (.ex (.c (.int (1))))])])))) (.seq (.ret (.c .none)) .next)
  .next) (.seq (.ite (.or (.not (.call "is_number_in" [(.prim .ix [(.pl 3), (.ex (.c (.int (1))))]), (.c (.int (1))), (.c (.int (4)))])) (.not (.call "is_number_in" [(.prim .ix [(.pl 3), (.ex (.c (.int (2))))]), (.c (.int (1))), (.c (.int (1000000000000000000000000000000)))]))) (.seq (.ret (.c .none)) .next)
  .next) (.seq (.ret (.prim .tupleOf [(.pl 3)])) .next)))))
def d_wish_read : DI := ⟨"wish_read", ["row", "count"], ["row", "count", "words", "numbers", ".0", "word"], false, defArgs (top 33), defBody (top 33), defScope (top 33), ir_wish_read⟩
def ir_need_row : S := (.seq (.ite (.prim .isN [(.pl 0)]) (.seq .no .next)
  .next) (.seq (.ret (.v 0)) .next))
def d_need_row : DI := ⟨"need_row", ["found", "at"], ["found", "at"], false, defArgs (top 34), defBody (top 34), defScope (top 34), ir_need_row⟩
def ir_read_house : S := (.seq (.set 1 (.meth .split (.pl 0) [(.c (.str "\n"))])) (.seq (.set 2 (.prim .sl10 [(.ex (.meth .split (.ex (.prim .ix [(.pl 1), (.ex (.c (.int (0))))])) [(.c (.str " "))])), (.ex (.c (.int (1))))])) (.seq (.ite (.or (.prim .ne [(.ex (.prim .ix [(.ex (.meth .split (.ex (.prim .ix [(.pl 1), (.ex (.c (.int (0))))])) [(.c (.str " "))])), (.ex (.c (.int (0))))])), (.ex (.c (.str "names")))]) (.not (.callB "are_names" [(.pl 2)]))) (.seq .no .next)
  .next) (.seq (.set 3 (.prim .lst [])) (.seq (.set 4 (.c (.int (1)))) (.seq (.whS (.and (.prim .lt [(.pl 4), (.ex (.prim .len [(.pl 1)]))]) (.prim .ne [(.ex (.prim .ix [(.ex (.meth .split (.ex (.prim .ix [(.pl 1), (.pl 4)])) [(.c (.str " "))])), (.ex (.c (.int (0))))])), (.ex (.c (.str "musts")))])) (.seq (.expr (.mut .append 3 [(.callB "need_row" [(.ex (.callB "rule_read" [(.pl 2), (.ex (.prim .ix [(.pl 1), (.pl 4)])), (.ex (.prim .len [(.pl 3)]))])), (.pl 4)])])) (.seq (.set 4 (.prim .add [(.pl 4), (.ex (.c (.int (1))))])) .next))) (.seq (.ite (.prim .eq [(.pl 4), (.ex (.prim .len [(.pl 1)]))]) (.seq .no .next)
  .next) (.seq (.set 5 (.call "need_row" [(.call "musts_read" [(.prim .ix [(.pl 1), (.pl 4)]), (.prim .len [(.pl 3)])]), (.v 4)])) (.seq (.set 6 (.prim .lst [])) (.seq (.forS (.rng [(.prim .add [(.pl 4), (.ex (.c (.int (1))))]), (.prim .len [(.pl 1)])]) (.one 7) (.seq (.ite (.prim .eq [(.ex (.prim .len [(.pl 6)])), (.ex (.c (.int (12))))]) (.seq .no .next)
  .next) (.seq (.expr (.mut .append 6 [(.call "need_row" [(.call "wish_read" [(.prim .ix [(.pl 1), (.pl 7)]), (.prim .len [(.pl 3)])]), (.v 7)])])) .next))) (.seq (.retT (.pl 2) [(.ex (.prim .len [(.pl 2)])), (.pl 3), (.pl 5), (.pl 6)]) .next)))))))))))
def d_read_house : DI := ⟨"read_house", ["text"], ["text", "rows", "names", "rules", "at", "musts", "wishes", "behind"], false, defArgs (top 35), defBody (top 35), defScope (top 35), ir_read_house⟩
def ir__law_row_of : S := (.seq (.set 1 (.prim .lst [])) (.seq (.set 2 (.prim .abs [(.pl 0)])) (.seq (.ite (.prim .ge [(.pl 2), (.ex (.prim .pow [(.ex (.c (.int (10)))), (.ex (.c (.int (18))))]))]) (.seq (.forS (.rng [(.c (.int (60)))]) (.one 3) (.seq (.ite (.prim .gt [(.pl 2), (.ex (.c (.int (0))))]) (.seq (.expr (.mut .append 1 [(.prim .mod [(.pl 2), (.ex (.prim .pow [(.ex (.c (.int (10)))), (.ex (.c (.int (6))))]))])])) (.seq (.set 2 (.prim .fdiv [(.pl 2), (.ex (.prim .pow [(.ex (.c (.int (10)))), (.ex (.c (.int (6))))]))])) .next))
  .next) .next)) (.seq (.ret (.v 1)) .next))
  .next) (.seq (.forS (.rng [(.c (.int (6)))]) (.one 3) (.seq (.set 4 (.prim .mod [(.ex (.prim .add [(.ex (.prim .add [(.ex (.prim .mul [(.pl 0), (.ex (.c (.int (48271))))])), (.ex (.prim .mul [(.ex (.c (.int (977)))), (.pl 3)]))])), (.ex (.c (.int (1))))])), (.ex (.c (.int (2147483647))))])) (.seq (.set 4 (.prim .mod [(.ex (.prim .mul [(.pl 4), (.pl 4)])), (.ex (.c (.int (2147483647))))])) (.seq (.expr (.mut .append 1 [(.prim .mod [(.ex (.prim .fdiv [(.ex (.prim .mod [(.ex (.prim .mul [(.ex (.prim .add [(.pl 4), (.ex (.prim .mul [(.ex (.c (.int (40692)))), (.ex (.prim .add [(.pl 3), (.ex (.c (.int (3))))]))]))])), (.ex (.c (.int (69621))))])), (.ex (.c (.int (2147483629))))])), (.ex (.c (.int (8))))])), (.ex (.prim .pow [(.ex (.c (.int (10)))), (.ex (.c (.int (6))))]))])])) .next)))) (.seq (.ret (.v 1)) .next)))))
def d__law_row_of : DI := ⟨"_law_row_of", ["cell"], ["cell", "found", "left", "k", "one"], false, defArgs (top 37), defBody (top 37), defScope (top 37), ir__law_row_of⟩
def ir__law_pack : S := (.seq (.set 2 (.prim .lst [])) (.seq (.forS (.seq (.prim .sl01 [(.pl 0), (.ex (.c (.int (63))))])) (.one 3) (.seq (.expr (.mut .extend 2 [(.call "_law_row_of" [(.v 3)])])) .next)) (.seq (.set 4 (.prim .mod [(.ex (.prim .add [(.ex (.c (.int (7919)))), (.ex (.prim .mul [(.ex (.c (.int (40693)))), (.ex (.prim .sum [(.pl 2)]))]))])), (.ex (.c (.int (2147483629))))])) (.seq (.forS (.rng [(.v 1)]) (.one 5) (.seq (.set 4 (.prim .mod [(.ex (.prim .add [(.ex (.prim .add [(.ex (.prim .mul [(.pl 4), (.pl 4)])), (.ex (.c (.int (40692))))])), (.pl 5)])), (.ex (.c (.int (2147483629))))])) (.seq (.expr (.mut .append 2 [(.prim .mod [(.ex (.prim .fdiv [(.pl 4), (.ex (.c (.int (8))))])), (.ex (.prim .pow [(.ex (.c (.int (10)))), (.ex (.c (.int (6))))]))])])) .next))) (.seq (.ret (.prim .lst [(.ex (.v 2)), (.ex (.c (.int (0))))])) .next)))))
def d__law_pack : DI := ⟨"_law_pack", ["script", "many"], ["script", "many", "found", "cell", "more", "k"], false, defArgs (top 38), defBody (top 38), defScope (top 38), ir__law_pack⟩
def ir__law_take : S := (.seq (.unp [2, 3] (.pl 0)) (.seq (.setIx 0 (.c (.int (1))) (.prim .add [(.pl 3), (.ex (.c (.int (1))))])) (.seq (.ret (.prim .mod [(.ex (.prim .fdiv [(.ex (.prim .ix [(.pl 2), (.ex (.prim .mod [(.pl 3), (.ex (.prim .len [(.pl 2)]))]))])), (.ex (.c (.int (7))))])), (.pl 1)])) .next)))
def d__law_take : DI := ⟨"_law_take", ["pack", "many"], ["pack", "many", "found", "at"], true, defArgs (top 39), defBody (top 39), defScope (top 39), ir__law_take⟩
def ir__law_words : S := (.seq (.set 2 (.prim .lst [])) (.seq (.forS (.rng [(.c (.int (1))), (.prim .add [(.pl 1), (.ex (.c (.int (1))))])]) (.one 3) (.seq (.set 4 (.callIO "_law_take" 0 [(.c (.int (5)))])) (.seq (.ite (.and (.prim .lt [(.pl 4), (.ex (.c (.int (3))))]) (.prim .lt [(.ex (.callIO "_law_take" 0 [(.v 1)])), (.ex (.c (.int (3))))])) (.seq (.expr (.mut .append 2 [(.prim .ix [(.ex (.prim .lst [(.ex (.v 3)), (.ex (.prim .neg [(.pl 3)])), (.ex (.v 3))])), (.pl 4)])])) .next)
  .next) .next))) (.seq (.ret (.prim .tupleOf [(.ex (.prim .sorted [(.pl 2)]))])) .next)))
def d__law_words : DI := ⟨"_law_words", ["pack", "n"], ["pack", "n", "found", "name", "way"], true, defArgs (top 40), defBody (top 40), defScope (top 40), ir__law_words⟩
def ir__law_rule : S := (.seq (.set 3 (.callIO "_law_take" 0 [(.c (.int (7)))])) (.seq (.ite (.and (.prim .eq [(.pl 3), (.ex (.c (.int (0))))]) (.prim .gt [(.pl 2), (.ex (.c (.int (0))))])) (.seq (.ret (.prim .tup [(.ex (.c (.str "not"))), (.ex (.callIO "_law_take" 0 [(.v 2)]))])) .next)
  .next) (.seq (.ite (.and (.prim .lt [(.pl 3), (.ex (.c (.int (3))))]) (.prim .gt [(.pl 2), (.ex (.c (.int (1))))])) (.seq (.set 4 (.prim .tupleOf [(.ex (.comp (.rng [(.v 2)]) (.one 6) (some (.prim .eq [(.ex (.callIO "_law_take" 0 [(.prim .add [(.ex (.c (.int (2)))), (.ex (.prim .fdiv [(.pl 2), (.ex (.c (.int (6))))]))])])), (.ex (.c (.int (0))))])) (.v 6) [5, 6]))])) (.seq (.ret (.prim .tup [(.ex (.c (.str "few"))), (.ex (.prim .fdiv [(.ex (.prim .mul [(.ex (.callIO "_law_take" 0 [(.prim .add [(.ex (.prim .len [(.pl 4)])), (.ex (.c (.int (1))))])])), (.ex (.c (.int (2))))])), (.ex (.c (.int (3))))])), (.ex (.v 4))])) .next))
  .next) (.seq (.ret (.prim .tup [(.ex (.c (.str "or"))), (.ex (.callIO "_law_words" 0 [(.v 1)]))])) .next))))
def d__law_rule : DI := ⟨"_law_rule", ["pack", "n", "count"], ["pack", "n", "count", "way", "numbers", ".0", "number"], true, defArgs (top 41), defBody (top 41), defScope (top 41), ir__law_rule⟩
def ir__law_weight : S := (.seq (.set 1 (.callIO "_law_take" 0 [(.c (.int (8)))])) (.seq (.ite (.prim .lt [(.pl 1), (.ex (.c (.int (6))))]) (.seq (.ret (.prim .add [(.ex (.c (.int (1)))), (.ex (.callIO "_law_take" 0 [(.prim .ix [(.ex (.prim .lst [(.ex (.c (.int (2)))), (.ex (.c (.int (2)))), (.ex (.c (.int (3)))), (.ex (.c (.int (3)))), (.ex (.c (.int (9)))), (.ex (.c (.int (1))))])), (.pl 1)])]))])) .next)
  .next) (.seq (.set 2 (.c (.int (0)))) (.seq (.forS (.rng [(.c (.int (6)))]) (.one 3) (.seq (.set 2 (.prim .add [(.ex (.prim .mul [(.pl 2), (.ex (.c (.int (100000))))])), (.ex (.callIO "_law_take" 0 [(.c (.int (100000)))]))])) .next)) (.seq (.ret (.prim .add [(.ex (.c (.int (1)))), (.pl 2)])) .next)))))
def d__law_weight : DI := ⟨"_law_weight", ["pack"], ["pack", "way", "number", "k"], true, defArgs (top 42), defBody (top 42), defScope (top 42), ir__law_weight⟩
def ir__law_house : S := (.seq (.set 4 (.prim .ix [(.pl 1), (.ex (.callIO "_law_take" 0 [(.prim .len [(.pl 1)])]))])) (.seq (.set 5 (.prim .ix [(.ex (.prim .lst [(.ex (.c (.int (3)))), (.ex (.c (.int (4)))), (.ex (.c (.int (5)))), (.ex (.c (.int (6)))), (.ex (.c (.int (8)))), (.ex (.c (.int (10)))), (.ex (.c (.int (1)))), (.ex (.v 2))])), (.ex (.callIO "_law_take" 0 [(.c (.int (8)))]))])) (.seq (.set 6 (.prim .lst [])) (.seq (.forS (.rng [(.prim .min2 [(.pl 5), (.pl 2)])]) (.one 7) (.seq (.expr (.mut .append 6 [(.callIO "_law_rule" 0 [(.v 4), (.v 7)])])) .next)) (.seq (.set 8 (.prim .tupleOf [(.ex (.comp (.rng [(.prim .len [(.pl 6)])]) (.one 12) (some (.prim .eq [(.ex (.callIO "_law_take" 0 [(.c (.int (7)))])), (.ex (.c (.int (0))))])) (.v 12) [11, 12]))])) (.seq (.set 9 (.prim .lst [])) (.seq (.forS (.rng [(.prim .min2 [(.pl 3), (.ex (.prim .ix [(.ex (.prim .lst [(.ex (.c (.int (0)))), (.ex (.c (.int (1)))), (.ex (.c (.int (2)))), (.ex (.c (.int (3)))), (.ex (.c (.int (4)))), (.ex (.c (.int (5)))), (.ex (.c (.int (6)))), (.ex (.v 3))])), (.ex (.callIO "_law_take" 0 [(.c (.int (8)))]))]))])]) (.one 7) (.seq (.set 10 (.prim .add [(.ex (.c (.int (1)))), (.ex (.callIO "_law_take" 0 [(.prim .ix [(.ex (.prim .lst [(.ex (.c (.int (1)))), (.ex (.c (.int (2)))), (.ex (.c (.int (2)))), (.ex (.c (.int (4))))])), (.ex (.callIO "_law_take" 0 [(.c (.int (4)))]))])]))])) (.seq (.expr (.mut .append 9 [(.prim .tup [(.ex (.callIO "_law_take" 0 [(.prim .len [(.pl 6)])])), (.ex (.v 10)), (.ex (.callIO "_law_weight" 0 []))])])) .next))) (.seq (.ret (.prim .tup [(.ex (.v 4)), (.ex (.v 6)), (.ex (.v 8)), (.ex (.v 9))])) .next))))))))
def d__law_house : DI := ⟨"_law_house", ["pack", "sizes", "most", "wishes_most"], ["pack", "sizes", "most", "wishes_most", "n", "many", "rules", "k", "musts", "wishes", "rank", ".0", "number"], true, defArgs (top 43), defBody (top 43), defScope (top 43), ir__law_house⟩
def ir__law_names : S := (.seq (.set 2 (.c (.str "abcdefghijklmnopqrstuvwxyz"))) (.seq (.set 3 (.prim .lst [])) (.seq (.forS (.rng [(.v 1)]) (.one 4) (.seq (.set 5 (.meth .join (.ex (.c (.str ""))) [(.comp (.rng [(.prim .add [(.ex (.c (.int (1)))), (.ex (.callIO "_law_take" 0 [(.c (.int (8)))]))])]) (.one 8) none (.prim .ix [(.pl 2), (.ex (.callIO "_law_take" 0 [(.c (.int (26)))]))]) [7, 8])])) (.seq (.ite (.prim .eq [(.ex (.callIO "_law_take" 0 [(.c (.int (5)))])), (.ex (.c (.int (0))))]) (.seq (.set 5 (.prim .ix [(.ex (.prim .lst [(.ex (.c (.str "or"))), (.ex (.c (.str "not"))), (.ex (.c (.str "few"))), (.ex (.c (.str "names"))), (.ex (.c (.str "musts"))), (.ex (.c (.str "wish"))), (.ex (.c (.str "best"))), (.ex (.c (.str "undo")))])), (.ex (.callIO "_law_take" 0 [(.c (.int (8)))]))])) .next)
  .next) (.seq (.set 6 (.prim .add [(.ex (.prim .lst [(.ex (.v 5))])), (.ex (.comp (.seq (.v 2)) (.one 9) none (.prim .add [(.pl 9), (.ex (.prim .sl10 [(.pl 5), (.ex (.c (.int (1))))]))]) [7, 9]))])) (.seq (.expr (.mut .append 3 [(.prim .ix [(.ex (.comp (.seq (.v 6)) (.one 10) (some (.prim .notin [(.pl 10), (.pl 3)])) (.v 10) [7, 10])), (.ex (.c (.int (0))))])])) .next))))) (.seq (.ret (.v 3)) .next))))
def d__law_names : DI := ⟨"_law_names", ["pack", "n"], ["pack", "n", "letters", "found", "k", "word", "heads", ".0", "sign", "letter", "other"], true, defArgs (top 44), defBody (top 44), defScope (top 44), ir__law_names⟩
def ir__law_rule_row : S := (.seq (.ite (.prim .eq [(.ex (.prim .ix [(.pl 1), (.ex (.c (.int (0))))])), (.ex (.c (.str "or")))]) (.seq (.set 2 (.comp (.seq (.prim .ix [(.pl 1), (.ex (.c (.int (1))))])) (.one 4) none (.prim .add [(.ex (.prim .ix [(.ex (.prim .lst [(.ex (.c (.str "-"))), (.ex (.c (.str "")))])), (.ex (.prim .int [(.ex (.prim .gt [(.pl 4), (.ex (.c (.int (0))))]))]))])), (.ex (.prim .ix [(.pl 0), (.ex (.prim .sub [(.ex (.prim .abs [(.pl 4)])), (.ex (.c (.int (1))))]))]))]) [3, 4])) (.seq (.ret (.meth .join (.ex (.c (.str " "))) [(.prim .add [(.ex (.prim .lst [(.ex (.c (.str "or")))])), (.pl 2)])])) .next))
  .next) (.seq (.ite (.prim .eq [(.ex (.prim .ix [(.pl 1), (.ex (.c (.int (0))))])), (.ex (.c (.str "few")))]) (.seq (.ret (.meth .join (.ex (.c (.str " "))) [(.prim .add [(.ex (.prim .lst [(.ex (.c (.str "few")))])), (.ex (.comp (.seq (.prim .add [(.ex (.prim .tup [(.ex (.prim .ix [(.pl 1), (.ex (.c (.int (1))))]))])), (.ex (.prim .tupleOf [(.ex (.prim .ix [(.pl 1), (.ex (.c (.int (2))))]))]))])) (.one 5) none (.prim .str [(.pl 5)]) [3, 5]))])])) .next)
  .next) (.seq (.ret (.prim .add [(.ex (.c (.str "not "))), (.ex (.prim .str [(.ex (.prim .ix [(.pl 1), (.ex (.c (.int (1))))]))]))])) .next)))
def d__law_rule_row : DI := ⟨"_law_rule_row", ["names", "rule"], ["names", "rule", "words", ".0", "word", "number"], false, defArgs (top 45), defBody (top 45), defScope (top 45), ir__law_rule_row⟩
def ir__law_written : S := (.seq (.set 2 (.prim .lst [(.ex (.meth .join (.ex (.c (.str " "))) [(.prim .add [(.ex (.prim .lst [(.ex (.c (.str "names")))])), (.pl 0)])]))])) (.seq (.forS (.seq (.prim .ix [(.pl 1), (.ex (.c (.int (1))))])) (.one 3) (.seq (.expr (.mut .append 2 [(.call "_law_rule_row" [(.v 0), (.v 3)])])) .next)) (.seq (.expr (.mut .append 2 [(.meth .join (.ex (.c (.str " "))) [(.prim .add [(.ex (.prim .lst [(.ex (.c (.str "musts")))])), (.ex (.comp (.seq (.prim .ix [(.pl 1), (.ex (.c (.int (2))))])) (.one 6) none (.prim .str [(.pl 6)]) [5, 6]))])])])) (.seq (.forS (.seq (.prim .ix [(.pl 1), (.ex (.c (.int (3))))])) (.one 4) (.seq (.expr (.mut .append 2 [(.prim .add [(.ex (.c (.str "wish "))), (.ex (.meth .join (.ex (.c (.str " "))) [(.comp (.seq (.v 4)) (.one 7) none (.prim .str [(.pl 7)]) [5, 7])]))])])) .next)) (.seq (.ret (.v 2)) .next)))))
def d__law_written : DI := ⟨"_law_written", ["names", "house"], ["names", "house", "rows", "rule", "wish", ".0", "must", "number"], false, defArgs (top 46), defBody (top 46), defScope (top 46), ir__law_written⟩
def ir__law_same : S := (.seq (.ite (.or (.not (.prim (.isi ["tuple"]) [(.pl 0)])) (.or (.prim .ne [(.pl 0), (.ex (.prim .tup [(.ex (.v 1)), (.ex (.v 2))]))]) (.not (.prim (.isi ["list"]) [(.ex (.prim .ix [(.pl 0), (.ex (.c (.int (0))))]))])))) (.seq (.ret (.c (.bool false))) .next)
  .next) (.seq (.set 3 (.prim .ix [(.pl 0), (.ex (.c (.int (1))))])) (.seq (.ite (.or (.not (.prim (.isi ["tuple"]) [(.pl 3)])) (.or (.not (.prim (.isi ["list"]) [(.ex (.prim .ix [(.pl 3), (.ex (.c (.int (1))))]))])) (.not (.prim (.isi ["list"]) [(.ex (.prim .ix [(.pl 3), (.ex (.c (.int (3))))]))])))) (.seq (.ret (.c (.bool false))) .next)
  .next) (.seq (.ret (.and (.prim (.isi ["tuple"]) [(.ex (.prim .ix [(.pl 3), (.ex (.c (.int (2))))]))]) (.prim .all [(.ex (.comp (.seq (.prim .add [(.ex (.prim .ix [(.pl 3), (.ex (.c (.int (1))))])), (.ex (.prim .ix [(.pl 3), (.ex (.c (.int (3))))]))])) (.one 5) none (.prim (.isi ["tuple"]) [(.pl 5)]) [4, 5]))]))) .next))))
def d__law_same : DI := ⟨"_law_same", ["found", "names", "house"], ["found", "names", "house", "parts", ".0", "one"], false, defArgs (top 47), defBody (top 47), defScope (top 47), ir__law_same⟩
def ir_law : S := (.seq (.set 1 (.call "_law_pack" [(.v 0), (.c (.int (600)))])) (.seq (.set 2 (.callIO "_law_house" 1 [(.prim .lst [(.ex (.c (.int (3)))), (.ex (.c (.int (4)))), (.ex (.c (.int (2)))), (.ex (.c (.int (5)))), (.ex (.c (.int (1)))), (.ex (.c (.int (0)))), (.ex (.c (.int (6)))), (.ex (.c (.int (8))))]), (.c (.int (24))), (.c (.int (12)))])) (.seq (.ite (.prim .lt [(.ex (.prim .len [(.ex (.prim .ix [(.pl 2), (.ex (.c (.int (1))))]))])), (.ex (.c (.int (24))))]) (.seq (.set 2 (.prim .tup [(.ex (.prim .ix [(.pl 2), (.ex (.c (.int (0))))])), (.ex (.prim .add [(.ex (.prim .ix [(.pl 2), (.ex (.c (.int (1))))])), (.ex (.prim .lst [(.ex (.prim .tup [(.ex (.c (.str "few"))), (.ex (.callIO "_law_take" 1 [(.c (.int (25)))])), (.ex (.prim .tup []))]))]))])), (.ex (.prim .ix [(.pl 2), (.ex (.c (.int (2))))])), (.ex (.prim .ix [(.pl 2), (.ex (.c (.int (3))))]))])) .next)
  .next) (.seq (.set 3 (.callIO "_law_names" 1 [(.prim .ix [(.pl 2), (.ex (.c (.int (0))))])])) (.seq (.set 4 (.prim .tup [(.ex (.prim .ix [(.pl 2), (.ex (.c (.int (0))))])), (.ex (.prim .listOf [(.ex (.prim .ix [(.pl 2), (.ex (.c (.int (1))))]))])), (.ex (.prim .ix [(.pl 2), (.ex (.c (.int (2))))])), (.ex (.prim .listOf [(.ex (.prim .ix [(.pl 2), (.ex (.c (.int (3))))]))]))])) (.seq (.set 5 (.meth .join (.ex (.c (.str "\n"))) [(.call "_law_written" [(.v 3), (.v 2)])])) (.seq (.forS (.rng [(.c (.int (2)))]) (.one 6) (.seq (.set 7 (.prim .ix [(.ex (.prim .lst [(.ex (.prim .listOf [(.pl 3)])), (.ex (.prim .tupleOf [(.pl 3)]))])), (.pl 6)])) (.seq (.ite (.or (.prim .ne [(.ex (.call "house_text" [(.v 7), (.v 4)])), (.pl 5)]) (.or (.prim .ne [(.ex (.prim .listOf [(.pl 7)])), (.pl 3)]) (.prim .ne [(.pl 4), (.pl 2)]))) (.seq (.ret (.c (.bool false))) .next)
  .next) (.seq (.set 8 (.call "read_house" [(.v 5)])) (.seq (.ite (.not (.callK "_law_same" [8, 3, 2])) (.seq (.ret (.c (.bool false))) .next)
  .next) (.seq (.mutP .append 8 [0] (.con (.str "z"))) (.seq (.mutP .clear 8 [1, 1] .nil) (.seq (.mutP .append 8 [3, 1] .unit) .next)))))))) (.seq (.ret (.c (.bool true))) .next))))))))
def d_law : DI := ⟨"law", ["script"], ["script", "pack", "house", "names", "handed", "text", "turn", "given", "found"], false, defArgs (top 48), defBody (top 48), defScope (top 48), ir_law⟩
def md : Md := ⟨["len", "all", "any", "abs", "sum", "sorted", "tuple", "list", "int", "str", "min", "max", "isinstance", "bool", "set", "range", "enumerate", "zip"], [("MOST_NAMES", 8), ("MOST_RULES", 24), ("LONGEST", 8), ("MOST_FIGURES", 60), ("MOST_WISHES", 12), ("MOST_RANK", 4), ("MOST_WEIGHT", 1000000000000000000000000000000)], [("SMALL", "abcdefghijklmnopqrstuvwxyz"), ("FIGURES", "0123456789")], [d_is_whole, d_is_row, d_is_number_in, d_made_words, d_made_numbers, d_made_either, d_made_count, d_made_not, d_made_rule, d_is_name, d_are_names, d_number_of, d_word_text, d_word_of, d_rule_text, d_house_text, d_row_rule, d_rule_read, d_musts_read, d_wish_read, d_need_row, d_read_house, d__law_row_of, d__law_pack, d__law_take, d__law_words, d__law_rule, d__law_weight, d__law_house, d__law_names, d__law_rule_row, d__law_written, d__law_same, d_law], [258], [149], [134, 139]⟩
theorem en_is_whole (k : Nat) : Phi md.tb (k + 1) "is_whole" = runS false 1 (evS false (Phi md.tb k) ir_is_whole) := Phi_succ _ _ _ d_is_whole (by rfl)
theorem tb_is_whole : md.tb.lookup ("is_whole" : Str) = some d_is_whole := by rfl
theorem en_is_row (k : Nat) : Phi md.tb (k + 1) "is_row" = runS false 1 (evS false (Phi md.tb k) ir_is_row) := Phi_succ _ _ _ d_is_row (by rfl)
theorem tb_is_row : md.tb.lookup ("is_row" : Str) = some d_is_row := by rfl
theorem en_is_number_in (k : Nat) : Phi md.tb (k + 1) "is_number_in" = runS false 3 (evS false (Phi md.tb k) ir_is_number_in) := Phi_succ _ _ _ d_is_number_in (by rfl)
theorem tb_is_number_in : md.tb.lookup ("is_number_in" : Str) = some d_is_number_in := by rfl
theorem en_made_words (k : Nat) : Phi md.tb (k + 1) "made_words" = runS false 4 (evS false (Phi md.tb k) ir_made_words) := Phi_succ _ _ _ d_made_words (by rfl)
theorem tb_made_words : md.tb.lookup ("made_words" : Str) = some d_made_words := by rfl
theorem en_made_numbers (k : Nat) : Phi md.tb (k + 1) "made_numbers" = runS false 4 (evS false (Phi md.tb k) ir_made_numbers) := Phi_succ _ _ _ d_made_numbers (by rfl)
theorem tb_made_numbers : md.tb.lookup ("made_numbers" : Str) = some d_made_numbers := by rfl
theorem en_made_either (k : Nat) : Phi md.tb (k + 1) "made_either" = runS false 3 (evS false (Phi md.tb k) ir_made_either) := Phi_succ _ _ _ d_made_either (by rfl)
theorem tb_made_either : md.tb.lookup ("made_either" : Str) = some d_made_either := by rfl
theorem en_made_count (k : Nat) : Phi md.tb (k + 1) "made_count" = runS false 3 (evS false (Phi md.tb k) ir_made_count) := Phi_succ _ _ _ d_made_count (by rfl)
theorem tb_made_count : md.tb.lookup ("made_count" : Str) = some d_made_count := by rfl
theorem en_made_not (k : Nat) : Phi md.tb (k + 1) "made_not" = runS false 2 (evS false (Phi md.tb k) ir_made_not) := Phi_succ _ _ _ d_made_not (by rfl)
theorem tb_made_not : md.tb.lookup ("made_not" : Str) = some d_made_not := by rfl
theorem en_made_rule (k : Nat) : Phi md.tb (k + 1) "made_rule" = runS false 3 (evS false (Phi md.tb k) ir_made_rule) := Phi_succ _ _ _ d_made_rule (by rfl)
theorem tb_made_rule : md.tb.lookup ("made_rule" : Str) = some d_made_rule := by rfl
theorem en_is_name (k : Nat) : Phi md.tb (k + 1) "is_name" = runS false 3 (evS false (Phi md.tb k) ir_is_name) := Phi_succ _ _ _ d_is_name (by rfl)
theorem tb_is_name : md.tb.lookup ("is_name" : Str) = some d_is_name := by rfl
theorem en_are_names (k : Nat) : Phi md.tb (k + 1) "are_names" = runS false 3 (evS false (Phi md.tb k) ir_are_names) := Phi_succ _ _ _ d_are_names (by rfl)
theorem tb_are_names : md.tb.lookup ("are_names" : Str) = some d_are_names := by rfl
theorem en_number_of (k : Nat) : Phi md.tb (k + 1) "number_of" = runS false 3 (evS false (Phi md.tb k) ir_number_of) := Phi_succ _ _ _ d_number_of (by rfl)
theorem tb_number_of : md.tb.lookup ("number_of" : Str) = some d_number_of := by rfl
theorem en_word_text (k : Nat) : Phi md.tb (k + 1) "word_text" = runS false 2 (evS false (Phi md.tb k) ir_word_text) := Phi_succ _ _ _ d_word_text (by rfl)
theorem tb_word_text : md.tb.lookup ("word_text" : Str) = some d_word_text := by rfl
theorem en_word_of (k : Nat) : Phi md.tb (k + 1) "word_of" = runS false 2 (evS false (Phi md.tb k) ir_word_of) := Phi_succ _ _ _ d_word_of (by rfl)
theorem tb_word_of : md.tb.lookup ("word_of" : Str) = some d_word_of := by rfl
theorem en_rule_text (k : Nat) : Phi md.tb (k + 1) "rule_text" = runS false 5 (evS false (Phi md.tb k) ir_rule_text) := Phi_succ _ _ _ d_rule_text (by rfl)
theorem tb_rule_text : md.tb.lookup ("rule_text" : Str) = some d_rule_text := by rfl
theorem en_house_text (k : Nat) : Phi md.tb (k + 1) "house_text" = runS false 11 (evS false (Phi md.tb k) ir_house_text) := Phi_succ _ _ _ d_house_text (by rfl)
theorem tb_house_text : md.tb.lookup ("house_text" : Str) = some d_house_text := by rfl
theorem en_row_rule (k : Nat) : Phi md.tb (k + 1) "row_rule" = runS false 5 (evS false (Phi md.tb k) ir_row_rule) := Phi_succ _ _ _ d_row_rule (by rfl)
theorem tb_row_rule : md.tb.lookup ("row_rule" : Str) = some d_row_rule := by rfl
theorem en_rule_read (k : Nat) : Phi md.tb (k + 1) "rule_read" = runS false 4 (evS false (Phi md.tb k) ir_rule_read) := Phi_succ _ _ _ d_rule_read (by rfl)
theorem tb_rule_read : md.tb.lookup ("rule_read" : Str) = some d_rule_read := by rfl
theorem en_musts_read (k : Nat) : Phi md.tb (k + 1) "musts_read" = runS false 9 (evS false (Phi md.tb k) ir_musts_read) := Phi_succ _ _ _ d_musts_read (by rfl)
theorem tb_musts_read : md.tb.lookup ("musts_read" : Str) = some d_musts_read := by rfl
theorem en_wish_read (k : Nat) : Phi md.tb (k + 1) "wish_read" = runS false 6 (evS false (Phi md.tb k) ir_wish_read) := Phi_succ _ _ _ d_wish_read (by rfl)
theorem tb_wish_read : md.tb.lookup ("wish_read" : Str) = some d_wish_read := by rfl
theorem en_need_row (k : Nat) : Phi md.tb (k + 1) "need_row" = runS false 2 (evS false (Phi md.tb k) ir_need_row) := Phi_succ _ _ _ d_need_row (by rfl)
theorem tb_need_row : md.tb.lookup ("need_row" : Str) = some d_need_row := by rfl
theorem en_read_house (k : Nat) : Phi md.tb (k + 1) "read_house" = runS false 8 (evS false (Phi md.tb k) ir_read_house) := Phi_succ _ _ _ d_read_house (by rfl)
theorem tb_read_house : md.tb.lookup ("read_house" : Str) = some d_read_house := by rfl
theorem en__law_row_of (k : Nat) : Phi md.tb (k + 1) "_law_row_of" = runS false 5 (evS false (Phi md.tb k) ir__law_row_of) := Phi_succ _ _ _ d__law_row_of (by rfl)
theorem tb__law_row_of : md.tb.lookup ("_law_row_of" : Str) = some d__law_row_of := by rfl
theorem en__law_pack (k : Nat) : Phi md.tb (k + 1) "_law_pack" = runS false 6 (evS false (Phi md.tb k) ir__law_pack) := Phi_succ _ _ _ d__law_pack (by rfl)
theorem tb__law_pack : md.tb.lookup ("_law_pack" : Str) = some d__law_pack := by rfl
theorem en__law_take (k : Nat) : Phi md.tb (k + 1) "_law_take" = runS true 4 (evS true (Phi md.tb k) ir__law_take) := Phi_succ _ _ _ d__law_take (by rfl)
theorem tb__law_take : md.tb.lookup ("_law_take" : Str) = some d__law_take := by rfl
theorem en__law_words (k : Nat) : Phi md.tb (k + 1) "_law_words" = runS true 5 (evS true (Phi md.tb k) ir__law_words) := Phi_succ _ _ _ d__law_words (by rfl)
theorem tb__law_words : md.tb.lookup ("_law_words" : Str) = some d__law_words := by rfl
theorem en__law_rule (k : Nat) : Phi md.tb (k + 1) "_law_rule" = runS true 7 (evS true (Phi md.tb k) ir__law_rule) := Phi_succ _ _ _ d__law_rule (by rfl)
theorem tb__law_rule : md.tb.lookup ("_law_rule" : Str) = some d__law_rule := by rfl
theorem en__law_weight (k : Nat) : Phi md.tb (k + 1) "_law_weight" = runS true 4 (evS true (Phi md.tb k) ir__law_weight) := Phi_succ _ _ _ d__law_weight (by rfl)
theorem tb__law_weight : md.tb.lookup ("_law_weight" : Str) = some d__law_weight := by rfl
theorem en__law_house (k : Nat) : Phi md.tb (k + 1) "_law_house" = runS true 13 (evS true (Phi md.tb k) ir__law_house) := Phi_succ _ _ _ d__law_house (by rfl)
theorem tb__law_house : md.tb.lookup ("_law_house" : Str) = some d__law_house := by rfl
theorem en__law_names (k : Nat) : Phi md.tb (k + 1) "_law_names" = runS true 11 (evS true (Phi md.tb k) ir__law_names) := Phi_succ _ _ _ d__law_names (by rfl)
theorem tb__law_names : md.tb.lookup ("_law_names" : Str) = some d__law_names := by rfl
theorem en__law_rule_row (k : Nat) : Phi md.tb (k + 1) "_law_rule_row" = runS false 6 (evS false (Phi md.tb k) ir__law_rule_row) := Phi_succ _ _ _ d__law_rule_row (by rfl)
theorem tb__law_rule_row : md.tb.lookup ("_law_rule_row" : Str) = some d__law_rule_row := by rfl
theorem en__law_written (k : Nat) : Phi md.tb (k + 1) "_law_written" = runS false 8 (evS false (Phi md.tb k) ir__law_written) := Phi_succ _ _ _ d__law_written (by rfl)
theorem tb__law_written : md.tb.lookup ("_law_written" : Str) = some d__law_written := by rfl
theorem en__law_same (k : Nat) : Phi md.tb (k + 1) "_law_same" = runS false 6 (evS false (Phi md.tb k) ir__law_same) := Phi_succ _ _ _ d__law_same (by rfl)
theorem tb__law_same : md.tb.lookup ("_law_same" : Str) = some d__law_same := by rfl
theorem en_law (k : Nat) : Phi md.tb (k + 1) "law" = runS false 9 (evS false (Phi md.tb k) ir_law) := Phi_succ _ _ _ d_law (by rfl)
theorem tb_law : md.tb.lookup ("law" : Str) = some d_law := by rfl
end M71
end PyI

namespace PyI
open PySem PySem.Spec PyProof.Rows L2
namespace M71
/-! ## the law's draws -/
def pk (f : List Int) (a : Int) : Sl := .lst [.list (f.map .int), .int a]
@[simp] theorem pk_owned (f : List Int) (a : Int) : (pk f a).owned = true := rfl
theorem atI_mod {f : List Int} (hf : f ≠ []) (a : Int) : ∃ v, atI (f.map PyData.int) (a % (f.length : Int)) = some (.int v) := by
  have hl : 0 < (f.length : Int) := by
    cases f with
    | nil => exact absurd rfl hf
    | cons _ _ => simp; try omega
  have b1 := Int.emod_nonneg a (by omega : (f.length : Int) ≠ 0)
  have b2 := Int.emod_lt_of_pos a hl
  have li : (a % (f.length : Int)).toNat < f.length := by omega
  refine ⟨f[(a % (f.length : Int)).toNat], ?_⟩
  unfold atI ixN
  rw [List.length_map, if_pos b1, if_pos b2]
  simp [li]
section
variable {f : List Int} (hf : f ≠ []) {q : Sl → Sl → Prop} {x : Str → PyData → Sl → Prop}
include hf
theorem take (k : Nat) {a m : Int} (hm : 0 < m) (h : ∀ v a', 0 ≤ v → v < m → q (.val (.int v)) (pk f a')) : WC (Phi md.tb (k + 1) "_law_take" [pk f a, .val (.int m)]) q x := by
  rw [en__law_take, wc_run]
  have hl : 0 < f.length := List.length_pos_iff.mpr hf
  obtain ⟨v, hv⟩ := atI_mod hf a
  simp [ir__law_take, pk, ixN, hl, hv, hm]
  exact h _ _ (Int.emod_nonneg _ (by omega)) (Int.emod_lt_of_pos _ hm)
theorem weight (k : Nat) {a : Int} (h : ∀ v a', 1 ≤ v → v ≤ 10 ^ 30 → q (.val (.int v)) (pk f a')) : WC (Phi md.tb (k + 2) "_law_weight" [pk f a]) q x := by
  rw [en__law_weight, wc_run]
  simp [ir__law_weight]
  refine take hf k (by omega) fun v a1 v0 v8 => ?_
  by_cases c : v < 6
  · have c6 : v = 0 ∨ v = 1 ∨ v = 2 ∨ v = 3 ∨ v = 4 ∨ v = 5 := by omega
    rcases c6 with rfl | rfl | rfl | rfl | rfl | rfl
    all_goals
      simp
      refine take hf k (by omega) fun u a2 u0 u8 => ?_
      simp
      exact h _ _ (by omega) (by omega)
  · simp [c]
    refine w_for (fun i Γ => ∃ a2 n z, Γ = [pk f a2, .val (.int v), .val (.int n), z] ∧ 0 ≤ n ∧ n < 100000 ^ i) ⟨a1, 0, _, rfl, by omega, by simp⟩ ?_ ?_
    · rintro J hJ i d Γ hd ⟨a2, n, z, rfl, n0, n1⟩
      simp
      refine take hf k (by omega) fun u a3 u0 u1 => ?_
      simp
      exact hJ _ _ ⟨a3, _, _, rfl, by omega, by rw [Int.pow_succ]; omega⟩
    · rintro Γ ⟨a2, n, z, rfl, n0, n1⟩
      simp at n1 ⊢
      exact h _ _ (by omega) (by omega)
theorem words (k : Nat) {a : Int} {n : Nat} (hn : n ≤ 8) (h : ∀ ws a', WordsOk n ws → q (.val (.tuple (ws.map .int))) (pk f a')) : WC (Phi md.tb (k + 2) "_law_words" [pk f a, .val (.int n)]) q x := by
  rw [en__law_words, wc_run]
  simp [ir__law_words]
  rw [if_pos (by omega)]
  simp
  refine w_for (fun i Γ => ∃ a2 ws z z2, Γ = [pk f a2, .val (.int n), .lst (ws.map .int), z, z2] ∧ Met i ws ∧ ws.length ≤ i) ⟨a, [], _, _, rfl, by simp [Met], by simp⟩ ?_ ?_
  · rintro J hJ i d Γ hd ⟨a2, ws, z, z2, rfl, m, l⟩
    obtain ⟨hi, rfl⟩ := rng_get hd
    simp
    refine take hf k (by omega) fun v a3 v0 v8 => ?_
    have keep : Met ((i + 1 : Nat) : Int) ws := ⟨fun w h => ⟨(m.1 w h).1, by have := (m.1 w h).2; omega⟩, m.2⟩
    by_cases c : v < 3
    · simp [c]
      refine take hf k (by omega) fun u a4 u0 u8 => ?_
      by_cases c2 : u < 3
      · have c3 : v = 0 ∨ v = 1 ∨ v = 2 := by omega
        have lw : ws.length < 16777216 := by omega
        have nx : ∀ w : Int, w = 1 + i ∨ w = -(1 + i) → J (i + 1) [pk f a4, .val (.int n), .lst (ws.map .int ++ [.int w]), .val (.int (1 + i)), .val (.int v)] := fun w hw => by
          refine hJ _ _ ⟨a4, ws ++ [w], _, _, by simp; exact ⟨rfl, rfl⟩, ⟨fun y hy => ?_, ?_⟩, by simp; omega⟩
          · rcases List.mem_append.mp hy with hy | hy
            · exact keep.1 y hy
            · have := List.mem_singleton.mp hy
              subst this
              omega
          · rw [List.map_append, List.nodup_append]
            refine ⟨m.2, by simp, fun a ha b hb e => ?_⟩
            simp at hb
            subst hb
            obtain ⟨y, hy1, rfl⟩ := List.mem_map.mp ha
            have := (m.1 y hy1).2
            omega
        rcases c3 with rfl | rfl | rfl
        · simp [c2, lw]; exact nx _ (.inl rfl)
        · simp [c2, lw]; exact nx _ (.inr rfl)
        · simp [c2, lw]; exact nx _ (.inl rfl)
      · simp [c2]
        exact hJ _ _ ⟨a4, ws, _, _, rfl, keep, by omega⟩
    · simp [c]
      exact hJ _ _ ⟨a3, ws, _, _, rfl, keep, by omega⟩
  · rintro Γ ⟨a2, ws, z, z2, rfl, m, l⟩
    simp
    refine h (isortI ws) _ ⟨?_, isort_idem _⟩
    rw [rng_len] at m
    exact m.perm (isort_perm _)
theorem rule (k : Nat) {a : Int} {n cnt : Nat} (hn : n ≤ 8) (hc : cnt ≤ 24) (h : ∀ r a', RlOk n cnt r → q (.val (Rl.d r)) (pk f a')) : WC (Phi md.tb (k + 3) "_law_rule" [pk f a, .val (.int n), .val (.int cnt)]) q x := by
  rw [en__law_rule, wc_run]
  simp [ir__law_rule]
  refine take hf (k + 1) (by omega) fun v a1 v0 v8 => ?_
  have i1 : ((1 : Int) < (cnt : Int)) ↔ 1 < cnt := by omega
  by_cases c1 : v = 0 ∧ 0 < cnt
  · simp [c1]
    refine take hf (k + 1) (by omega) fun u a2 u0 u1 => ?_
    simp
    exact h (.nt u) _ ⟨u0, u1⟩
  · by_cases c2 : v < 3 ∧ 1 < cnt
    · have v1 : ¬ v = 0 := fun z => c1 ⟨z, by omega⟩
      simp [v1, c2, i1]
      rw [if_pos (by omega)]
      simp
      refine w_comp (fun i acc Γ => ∃ a2 ns x5 x6, Γ = [pk f a2, .val (.int n), .val (.int cnt), .val (.int v), .un, x5, x6] ∧ acc = ns.map PyData.int ∧ NumsOk i ns ∧ ns.length ≤ i) rfl ⟨a1, [], _, _, rfl, rfl, ⟨.nil, by simp⟩, by simp⟩ ?_ ?_
      · rintro J hJ i d acc Γ hd ⟨a2, ns, x5, x6, rfl, rfl, m, l⟩
        obtain ⟨hi, rfl⟩ := rng_get hd
        simp [unE]
        have hd := Int.ediv_nonneg (show (0 : Int) ≤ cnt by omega) (by decide : (0 : Int) ≤ 6)
        refine take hf (k + 1) (by omega) fun u a3 u0 u1 => ?_
        by_cases c : u = 0
        · simp [c]
          exact hJ _ _ _ ⟨a3, ns ++ [(i : Int)], _, _, rfl, by simp, m.snoc, by simp; omega⟩
        · simp [c]
          exact hJ _ _ _ ⟨a3, ns, _, _, rfl, by simp, m.more, by omega⟩
      · rintro l Γ2 ⟨a2, ns, x5, x6, rfl, rfl, m, l⟩
        rw [rng_len] at m
        simp [mixE]
        refine take hf (k + 1) (by omega) fun u a3 u0 u1 => ?_
        simp
        rw [rng_len] at l
        exact h (.few (u * 2 / 3) ns) _ ⟨by omega, by omega, m⟩
    · by_cases v0 : v = 0
      · have : ¬ 0 < cnt := fun z => c1 ⟨v0, z⟩
        have : ¬ 1 < cnt := by omega
        simp [v0, i1, *]
        refine words hf k hn fun ws a2 hw => ?_
        simp
        exact h (.ors ws) _ hw
      · by_cases v3 : v < 3
        · have : ¬ 1 < cnt := by omega
          simp [v0, v3, i1, *]
          refine words hf k hn fun ws a2 hw => ?_
          simp
          exact h (.ors ws) _ hw
        · simp [*]
          refine words hf k hn fun ws a2 hw => ?_
          simp
          exact h (.ors ws) _ hw
theorem house (k : Nat) {a : Int} (h : ∀ (n : Nat) (rs : List Rl) (ms : List Int) (ws : List Ws) a', n ≤ 8 → rs.length ≤ 24 → 0 < rs.length → AllOk n rs → NumsOk rs.length ms → ws.length ≤ 12 → (∀ w ∈ ws, WsOk rs.length w) →
    q (.val (.tuple [.int n, .list (rs.map Rl.d), .tuple (ms.map .int), .list (ws.map Ws.d)])) (pk f a')) :
    WC (Phi md.tb (k + 4) "_law_house" [pk f a, .val (.list [.int 3, .int 4, .int 2, .int 5, .int 1, .int 0, .int 6, .int 8]), .val (.int 24), .val (.int 12)]) q x := by
  rw [en__law_house, wc_run]
  simp [ir__law_house]
  refine take hf (k + 2) (by omega) fun v a1 v0 v8 => ?_
  have e8 : ∃ n : Nat, n ≤ 8 ∧ atI [PyData.int 3, .int 4, .int 2, .int 5, .int 1, .int 0, .int 6, .int 8] v = some (.int n) := by
    have c : v = 0 ∨ v = 1 ∨ v = 2 ∨ v = 3 ∨ v = 4 ∨ v = 5 ∨ v = 6 ∨ v = 7 := by omega
    rcases c with rfl | rfl | rfl | rfl | rfl | rfl | rfl | rfl
    · exact ⟨3, by decide, rfl⟩
    · exact ⟨4, by decide, rfl⟩
    · exact ⟨2, by decide, rfl⟩
    · exact ⟨5, by decide, rfl⟩
    · exact ⟨1, by decide, rfl⟩
    · exact ⟨0, by decide, rfl⟩
    · exact ⟨6, by decide, rfl⟩
    · exact ⟨8, by decide, rfl⟩
  obtain ⟨n, hn, e8⟩ := e8
  simp [e8]
  refine take hf (k + 2) (by omega) fun v2 a2 v20 v28 => ?_
  have e9 : ∃ m : Nat, m ≤ 24 ∧ 0 < m ∧ atI [PyData.int 3, .int 4, .int 5, .int 6, .int 8, .int 10, .int 1, .int 24] v2 = some (.int m) := by
    have c : v2 = 0 ∨ v2 = 1 ∨ v2 = 2 ∨ v2 = 3 ∨ v2 = 4 ∨ v2 = 5 ∨ v2 = 6 ∨ v2 = 7 := by omega
    rcases c with rfl | rfl | rfl | rfl | rfl | rfl | rfl | rfl
    · exact ⟨3, by decide, by decide, rfl⟩
    · exact ⟨4, by decide, by decide, rfl⟩
    · exact ⟨5, by decide, by decide, rfl⟩
    · exact ⟨6, by decide, by decide, rfl⟩
    · exact ⟨8, by decide, by decide, rfl⟩
    · exact ⟨10, by decide, by decide, rfl⟩
    · exact ⟨1, by decide, by decide, rfl⟩
    · exact ⟨24, by decide, by decide, rfl⟩
  obtain ⟨m, hm, hm0, e9⟩ := e9
  have mm : ¬ (24 : Int) < m := by omega
  simp [e9, mm]
  rw [if_pos (by omega)]
  simp
  refine w_for (fun i Γ => ∃ a2 rs z, Γ = [pk f a2, .val (.list [.int 3, .int 4, .int 2, .int 5, .int 1, .int 0, .int 6, .int 8]), .val (.int 24), .val (.int 12), .val (.int n), .val (.int m), .lst (rs.map Rl.d), z, .un, .un, .un, .un, .un] ∧ rs.length = i ∧ AllOk n rs) ⟨_, [], _, rfl, rfl, by simp [AllOk]⟩ ?_ ?_
  · rintro J hJ i d Γ hd ⟨a2, rs, z, rfl, rfl, ao⟩
    obtain ⟨hi, rfl⟩ := rng_get hd
    simp
    refine rule hf k hn (by omega) fun r a3 hr => ?_
    simp
    rw [if_pos (by omega)]
    exact hJ _ _ ⟨a3, rs ++ [r], _, by simp; rfl, by simp, ao.snoc hr⟩
  · rintro Γ ⟨a2, rs, z, rfl, l, ao⟩
    rw [rng_len] at l
    subst l
    simp
    rw [if_pos (by omega)]
    simp
    refine w_comp (fun i acc Γ => ∃ a2 ms x5 x6, Γ = [pk f a2, .val (.list [.int 3, .int 4, .int 2, .int 5, .int 1, .int 0, .int 6, .int 8]), .val (.int 24), .val (.int 12), .val (.int n), .val (.int rs.length), .lst (rs.map Rl.d), z, .un, .un, .un, x5, x6] ∧ acc = ms.map PyData.int ∧ NumsOk i ms) rfl ⟨_, [], _, _, rfl, rfl, ⟨.nil, by simp⟩⟩ ?_ ?_
    · rintro J hJ i d acc Γ hd ⟨a3, ms, x5, x6, rfl, rfl, mo⟩
      obtain ⟨hi, rfl⟩ := rng_get hd
      simp [unE]
      refine take hf (k + 2) (by omega) fun u a4 u0 u1 => ?_
      by_cases c : u = 0
      · simp [c]
        exact hJ _ _ _ ⟨a4, ms ++ [(i : Int)], _, _, rfl, by simp, mo.snoc⟩
      · simp [c]
        exact hJ _ _ _ ⟨a4, ms, _, _, rfl, by simp, mo.more⟩
    · rintro l Γ2 ⟨a3, ms, x5, x6, rfl, rfl, mo⟩
      rw [rng_len] at mo
      simp [mixE]
      refine take hf (k + 2) (by omega) fun v3 a4 v30 v38 => ?_
      have e9 : ∃ m : Nat, m ≤ 12 ∧ atI [PyData.int 0, .int 1, .int 2, .int 3, .int 4, .int 5, .int 6, .int 12] v3 = some (.int m) := by
        have c : v3 = 0 ∨ v3 = 1 ∨ v3 = 2 ∨ v3 = 3 ∨ v3 = 4 ∨ v3 = 5 ∨ v3 = 6 ∨ v3 = 7 := by omega
        rcases c with rfl | rfl | rfl | rfl | rfl | rfl | rfl | rfl
        · exact ⟨0, by decide, rfl⟩
        · exact ⟨1, by decide, rfl⟩
        · exact ⟨2, by decide, rfl⟩
        · exact ⟨3, by decide, rfl⟩
        · exact ⟨4, by decide, rfl⟩
        · exact ⟨5, by decide, rfl⟩
        · exact ⟨6, by decide, rfl⟩
        · exact ⟨12, by decide, rfl⟩
      obtain ⟨wm, hwm, e9⟩ := e9
      have em : (if (wm : Int) < 12 then (wm : Int) else 12) = wm := by split <;> omega
      simp [e9, em]
      rw [if_pos (by omega)]
      simp
      refine w_for (fun i Γ => ∃ a2 ws z r, Γ = [pk f a2, .val (.list [.int 3, .int 4, .int 2, .int 5, .int 1, .int 0, .int 6, .int 8]), .val (.int 24), .val (.int 12), .val (.int n), .val (.int rs.length), .lst (rs.map Rl.d), z, .val (.tuple (ms.map .int)), .lst (ws.map Ws.d), r, .un, .un] ∧ ws.length = i ∧ ∀ w ∈ ws, WsOk rs.length w) ⟨_, [], _, _, rfl, rfl, by simp⟩ ?_ ?_
      · rintro J hJ i d Γ hd ⟨a5, ws, z, r, rfl, rfl, wo⟩
        obtain ⟨hi, rfl⟩ := rng_get hd
        simp
        refine take hf (k + 2) (by omega) fun v4 a6 v40 v48 => ?_
        have e4 : ∃ m : Int, 1 ≤ m ∧ m ≤ 4 ∧ atI [PyData.int 1, .int 2, .int 2, .int 4] v4 = some (.int m) := by
          have c : v4 = 0 ∨ v4 = 1 ∨ v4 = 2 ∨ v4 = 3 := by omega
          rcases c with rfl | rfl | rfl | rfl
          · exact ⟨1, by decide, by decide, rfl⟩
          · exact ⟨2, by decide, by decide, rfl⟩
          · exact ⟨2, by decide, by decide, rfl⟩
          · exact ⟨4, by decide, by decide, rfl⟩
        obtain ⟨rm, rm1, rm4, e4⟩ := e4
        simp [e4]
        refine take hf (k + 2) (by omega) fun u a7 u0 u1 => ?_
        simp
        refine take hf (k + 2) (by omega) fun no a8 no0 no1 => ?_
        simp
        refine weight hf (k + 1) fun hv a9 hv0 hv1 => ?_
        simp
        rw [if_pos (by omega)]
        exact hJ _ _ ⟨a9, ws ++ [⟨no, 1 + u, hv⟩], _, _, by simp [Ws.d]; exact ⟨rfl, rfl⟩, by simp, fun w hw => by
          rcases List.mem_append.mp hw with hw | hw
          · exact wo w hw
          · rw [List.mem_singleton.mp hw]
            exact ⟨no0, no1, by show 1 ≤ 1 + u; omega, by show 1 + u ≤ 4; omega, hv0, hv1⟩⟩
      · rintro Γ ⟨a5, ws, z, r, rfl, l, wo⟩
        rw [rng_len] at l
        simp
        exact h n rs ms ws _ hn (by omega) hm0 ao mo (by omega) wo
end
end M71
end PyI

namespace PyI
open PySem PySem.Spec PyProof.Rows L2
namespace Tx
open TL
def one (c : Nat) : Str := ⟨#[c]⟩
def abc : Str := "abcdefghijklmnopqrstuvwxyz"
theorem tl_abc : tl abc = List.range' 97 26 := by decide +kernel
theorem tl_one (c : Nat) : tl (one c) = [c] := rfl
theorem sub_len {α : Type} [DecidableEq α] : ∀ {l m : List α}, l.Nodup → (∀ a ∈ l, a ∈ m) → l.length ≤ m.length
  | [], _, _, _ => Nat.zero_le _
  | a :: l, m, nd, h => by
    have nd' := List.nodup_cons.mp nd
    have ha : a ∈ m := h a (by simp)
    have z := sub_len (l := l) (m := m.erase a) nd'.2 fun b hb => (List.mem_erase_of_ne (fun e => nd'.1 (by rw [← e]; exact hb))).mpr (h b (by simp [hb]))
    rw [List.length_erase_of_mem ha] at z
    have := List.length_pos_of_mem ha
    simp
    omega
theorem tl_join0 : ∀ cs : List Nat, tl (Txt.join ("" : Str) (cs.map one)) = cs
  | [] => by rw [join_eq]; rfl
  | [c] => by rw [List.map_cons, List.map_nil, join_one]; rfl
  | a :: b :: r => by
    have := tl_join0 (b :: r)
    rw [List.map_cons, List.map_cons, join_cons, tl_append, tl_append, ← List.map_cons, this]
    rfl
theorem tl_cut1 (z : Str) : tl (cutS z (some 1) none) = (tl z).tail := by
  show ((tl z).drop (HT.sIx z.length 0 (some 1))).take (HT.sIx z.length z.length none - HT.sIx z.length 0 (some 1)) = _
  have e : HT.sIx z.length 0 (some 1) = min 1 z.length := HT.sIx_nat z.length 0 1
  rw [e, HT.sIx_none, List.take_of_length_le (by rw [List.length_drop, len_tl]; omega)]
  cases h : tl z with
  | nil => simp
  | cons a b => rw [len_tl, h]; simp
/-- the names that are tried -/
def heads (word : Str) : List Str := word :: (tl abc).map fun c => one c ++ cutS word (some 1) none
theorem heads_nm {word : Str} (h : Nm word) : ∀ s ∈ heads word, Nm s := by
  intro s hs
  rcases List.mem_cons.mp hs with rfl | hs
  · exact h
  · obtain ⟨c, hc, rfl⟩ := List.mem_map.mp hs
    rw [tl_abc, List.mem_range'_1] at hc
    have e : tl (one c ++ cutS word (some 1) none) = c :: (tl word).tail := by rw [tl_append, tl_cut1]; rfl
    have l1 := h.1
    have l8 := h.2.1
    rw [len_tl] at l1 l8
    refine ⟨?_, ?_, ?_⟩
    · rw [len_tl, e]; simp
    · rw [len_tl, e]; simp; omega
    · intro x hx
      rw [e] at hx
      rcases List.mem_cons.mp hx with rfl | hx
      · omega
      · exact h.2.2 x (List.mem_of_mem_tail hx)
theorem heads_new {word : Str} {found : List Str} (hl : found.length < 26) : ∃ s ∈ heads word, s ∉ found := by
  by_cases h : ∃ s ∈ heads word, s ∉ found
  · exact h
  · have all : ∀ s ∈ heads word, s ∈ found := fun s hs => Decidable.byContradiction fun z => h ⟨s, hs, z⟩
    have nd : ((tl abc).map fun c => one c ++ cutS word (some 1) none).Nodup := by
      rw [tl_abc, List.Nodup, List.pairwise_map]
      refine List.Pairwise.imp (R := (· ≠ ·)) (fun {c d} h e => ?_) (List.nodup_range' (step := 1))
      have := congrArg tl e
      rw [tl_append, tl_append] at this
      exact h (by simpa [tl_one] using this)
    have := sub_len nd fun s hs => all s (by simp [heads]; exact .inr (by simpa using hs))
    rw [List.length_map, tl_abc, List.length_range'] at this
    omega
def oddW : List Str := ["or", "not", "few", "names", "musts", "wish", "best", "undo"]
theorem oddW_nm : ∀ s ∈ oddW, Nm s := by
  have h : oddW.all (fun s => decide (1 ≤ s.length ∧ s.length ≤ 8) && (tl s).all fun c => decide (97 ≤ c ∧ c ≤ 122)) = true := by decide +kernel
  intro s hs
  have := List.all_eq_true.mp h s hs
  simp only [Bool.and_eq_true, decide_eq_true_eq, List.all_eq_true] at this
  exact ⟨this.1.1, this.1.2, this.2⟩
theorem abc_items : itemsOf (.str abc) = some ((tl abc).map fun c => .str (one c)) := by
  show (if lineB abc.length then some _ else none) = _
  rw [if_pos (by rw [len_tl, tl_abc]; simp)]
  rfl
end Tx
namespace M71
open Tx TL
section
variable {f : List Int} (hf : f ≠ []) {q : Sl → Sl → Prop} {x : Str → PyData → Sl → Prop}
include hf
theorem names (k : Nat) {a : Int} {n : Nat} (hn : n ≤ 8) (h : ∀ (ns : List Str) a', ns.length = n → NamesOk ns → q (.val (.list (ns.map .str))) (pk f a')) : WC (Phi md.tb (k + 2) "_law_names" [pk f a, .val (.int n)]) q x := by
  rw [en__law_names, wc_run]
  have ia : ∀ v : Int, 0 ≤ v → v < 26 → ∃ c, 97 ≤ c ∧ c ≤ 122 ∧ atI ("abcdefghijklmnopqrstuvwxyz" : Str).cps.toList v = some c := fun v h0 h1 => by
    refine ⟨97 + v.toNat, by omega, by omega, ?_⟩
    have e : ("abcdefghijklmnopqrstuvwxyz" : Str).cps.toList = List.range' 97 26 := tl_abc
    rw [e]
    unfold atI ixN
    rw [if_pos h0, if_pos (by simp; omega)]
    show (List.range' 97 26)[v.toNat]? = _
    rw [List.getElem?_range' (by omega)]
    simp
  have la : ("abcdefghijklmnopqrstuvwxyz" : Str).length = 26 := by decide +kernel
  have it : itemsOf (.str "abcdefghijklmnopqrstuvwxyz") = some ((tl abc).map fun c => .str (one c)) := abc_items
  simp [ir__law_names]
  rw [if_pos (by omega)]
  simp
  refine w_for (fun i Γ => ∃ a2 ns z w hd, Γ = [pk f a2, .val (.int n), .val (.str "abcdefghijklmnopqrstuvwxyz"), .lst (ns.map .str), z, w, hd, .un, .un, .un, .un] ∧ ns.length = i ∧ NamesOk ns) ⟨a, [], _, _, _, rfl, rfl, by simp [NamesOk]⟩ ?_ ?_
  · rintro J hJ i d Γ hd ⟨a2, ns, z, w, hds, rfl, rfl, no⟩
    obtain ⟨hi, rfl⟩ := rng_get hd
    simp
    refine take hf k (by omega) fun v a3 v0 v8 => ?_
    simp
    rw [if_pos (by omega)]
    simp
    refine w_comp (fun i acc Γ => ∃ a4 ps x7 x8, Γ = [pk f a4, .val (.int n), .val (.str "abcdefghijklmnopqrstuvwxyz"), .lst (ns.map .str), .val (.int ns.length), w, hds, x7, x8, .un, .un] ∧ acc = ps.map PyData.str ∧ ∃ cs, ps = cs.map one ∧ cs.length = i ∧ ∀ c ∈ cs, 97 ≤ c ∧ c ≤ 122) rfl ⟨a3, [], _, _, rfl, rfl, [], rfl, rfl, by simp⟩ ?_ ?_
    · rintro J2 hJ2 i2 d2 acc Γ2 hd2 ⟨a4, ps, x7, x8, rfl, rfl, cs, hps, rfl, hc⟩
      simp [unE]
      refine take hf k (by omega) fun u a5 u0 u1 => ?_
      obtain ⟨c, c1, c2, c3⟩ := ia u u0 u1
      simp [la, c3]
      exact hJ2 _ _ _ ⟨a5, ps ++ [one c], _, _, rfl, by simp [one], cs ++ [c], by simp [hps], by simp, fun y hy => by
        rcases List.mem_append.mp hy with hy | hy
        · exact hc y hy
        · rw [List.mem_singleton.mp hy]; exact ⟨c1, c2⟩⟩
    · rintro l Γ2 ⟨a4, ps, x7, x8, rfl, rfl, cs, hps, lc, hc⟩
      rw [rng_len] at lc
      have wn : Nm (Txt.join ("" : Str) ps) := by
        have t := tl_join0 cs
        rw [hps]
        refine ⟨by rw [len_tl, t]; omega, by rw [len_tl, t]; omega, by rw [t]; exact hc⟩
      have jl : (ps.map (·.length)).sum + ps.length * ("" : Str).length ≤ 16777216 := by
        have e : ps.map (·.length) = cs.map fun _ => 1 := by rw [hps]; simp [one, Str.length]
        have e0 : ("" : Str).length = 0 := rfl
        rw [e, e0]
        have : ∀ l : List Nat, (l.map fun _ => 1).sum = l.length := fun l => by
          induction l with
          | nil => rfl
          | cons a l ih => simp only [List.map_cons, List.sum_cons, ih, List.length_cons]; omega
        rw [this]
        omega
      simp [mixE, jl]
      refine take hf k (by omega) fun u a5 u0 u1 => ?_
      have rest : ∀ (p : Po) (word : Str) a5, p.nx = J (ns.length + 1) → Nm word → WS true (Phi md.tb (k + 1)) (.seq (.set 6 (.prim .add [(.ex (.prim .lst [(.ex (.v 5))])), (.ex (.comp (.seq (.v 2)) (.one 9) none (.prim .add [(.pl 9), (.ex (.prim .sl10 [(.pl 5), (.ex (.c (.int (1))))]))]) [7, 9]))])) (.seq (.expr (.mut .append 3 [(.prim .ix [(.ex (.comp (.seq (.v 6)) (.one 10) (some (.prim .notin [(.pl 10), (.pl 3)])) (.v 10) [7, 10])), (.ex (.c (.int (0))))])])) .next)) [pk f a5, .val (.int n), .val (.str "abcdefghijklmnopqrstuvwxyz"), .lst (ns.map .str), .val (.int ns.length), .val (.str word), hds, .un, .un, .un, .un] p := fun p word a5 hpn hw => by
        have w8 : word.length ≤ 16777216 := by have := hw.2.1; omega
        simp [it]
        refine w_mapA (fun c => .str (one c)) (tl abc) (fun c => .str (one c ++ cutS word (some 1) none)) rfl ?_ ?_
        · intro c hc J2 hJ2
          have c1 : (one c).length = 1 := rfl
          have cl := cutS_length word (some 1) none
          have sz : (one c).length + (cutS word (some 1) none).length ≤ 16777216 := by have := hw.2.1; omega
          simp [unE, w8, sz]
          exact hJ2 _ rfl
        · have ha : (tl abc).length = 26 := by rw [tl_abc]; simp
          simp [ha]
          have eh : PyData.str word :: (tl abc).map (fun c => PyData.str (one c ++ cutS word (some 1) none)) = (heads word).map .str := by simp [heads]
          rw [eh]
          refine w_filt .str (heads word) (fun s => if s ∈ ns then none else some (.str s)) rfl ?_ ?_
          · intro s hs J2 hJ2
            by_cases hm : s ∈ ns
            · simp [unE, hm]
              simp only [hm, if_true] at hJ2
              exact hJ2 _ rfl
            · simp [unE, hm]
              simp only [hm, if_false] at hJ2
              exact hJ2 _ rfl
          · have hp : ∃ s, s ∈ heads word ∧ s ∉ ns ∧ ((heads word).filterMap fun s => if s ∈ ns then none else some (PyData.str s))[0]? = some (.str s) := by
              obtain ⟨s0, h1, h2⟩ := heads_new (word := word) (found := ns) (by omega)
              have hm : PyData.str s0 ∈ (heads word).filterMap fun s => if s ∈ ns then none else some (PyData.str s) := List.mem_filterMap.mpr ⟨s0, h1, by simp [h2]⟩
              cases hl : (heads word).filterMap fun s => if s ∈ ns then none else some (PyData.str s) with
              | nil => rw [hl] at hm; cases hm
              | cons d r =>
                have hd : d ∈ (heads word).filterMap fun s => if s ∈ ns then none else some (PyData.str s) := by rw [hl]; simp
                obtain ⟨s, h3, h4⟩ := List.mem_filterMap.mp hd
                by_cases hs : s ∈ ns
                · rw [if_pos hs] at h4; cases h4
                · rw [if_neg hs] at h4
                  cases h4
                  exact ⟨s, h3, hs, rfl⟩
            obtain ⟨s, h1, h2, h3⟩ := hp
            simp [h3]
            rw [if_pos (by omega), hpn]
            exact hJ _ _ ⟨a5, ns ++ [s], _, _, _, by simp; exact ⟨rfl, rfl, rfl⟩, by simp, List.nodup_append.mpr ⟨no.1, by simp, fun y hy z hz e => h2 (by rw [List.mem_singleton.mp hz] at e; exact e ▸ hy)⟩, fun y hy => by
              rcases List.mem_append.mp hy with hy | hy
              · exact no.2 y hy
              · rw [List.mem_singleton.mp hy]
                exact heads_nm hw s h1⟩
      by_cases c : u = 0
      · simp [c]
        refine take hf k (by omega) fun u2 a6 u20 u28 => ?_
        have eo : ∃ w ∈ oddW, atI [PyData.str "or", .str "not", .str "few", .str "names", .str "musts", .str "wish", .str "best", .str "undo"] u2 = some (.str w) := by
          have c8 : u2 = 0 ∨ u2 = 1 ∨ u2 = 2 ∨ u2 = 3 ∨ u2 = 4 ∨ u2 = 5 ∨ u2 = 6 ∨ u2 = 7 := by omega
          rcases c8 with rfl | rfl | rfl | rfl | rfl | rfl | rfl | rfl
          all_goals exact ⟨_, by simp [oddW], rfl⟩
        obtain ⟨w2, hw2, eo⟩ := eo
        simp [eo, -ws_seq]
        exact rest _ _ _ rfl (oddW_nm w2 hw2)
      · simp [c, -ws_seq]
        exact rest _ _ _ rfl wn
  · rintro Γ ⟨a2, ns, z, w, hds, rfl, l, no⟩
    rw [rng_len] at l
    simp
    exact h ns _ l no
end
end M71
end PyI

namespace PyI
open PySem PySem.Spec PyProof.Rows L2
namespace Tx
open TL
theorem log2_small {i : Int} (h0 : 0 ≤ i) (h : i ≤ 10 ^ 60) : i.natAbs.log2 < 1920 := by
  by_cases z : i.natAbs = 0
  · rw [z]; decide
  · rw [Nat.log2_lt z]
    have : i.natAbs ≤ 10 ^ 60 := by omega
    exact Nat.lt_of_le_of_lt this (by decide +kernel)
/-- a row of texts: a list, a tuple -/
def nmD (t : Bool) (ns : List Str) : PyData := if t = true then .tuple (ns.map .str) else .list (ns.map .str)
theorem names_get {ns : List Str} {w : Int} (h0 : 1 ≤ w.natAbs) (h1 : w.natAbs ≤ ns.length) : atI (ns.map PyData.str) ((w.natAbs : Int) - 1) = some (.str (ns.getD (w.natAbs - 1) "")) := by
  have e : ((w.natAbs : Int) - 1) = ((w.natAbs - 1 : Nat) : Int) := by omega
  have hi : w.natAbs - 1 < ns.length := by omega
  rw [e, atI_n, List.getElem?_map, List.getElem?_eq_getElem hi]
  simp [List.getD, hi]
theorem names_at {ns : List Str} (hn : NamesOk ns) {w : Int} (h0 : w ≠ 0) (h1 : w.natAbs ≤ ns.length) : ∃ nm : Str, atI (ns.map PyData.str) ((w.natAbs : Int) - 1) = some (.str nm) ∧ nm.length ≤ 8 ∧ wordT ns w = (if 0 < w then ("" : Str) else "-") ++ nm := by
  refine ⟨_, names_get (by omega) h1, ?_, rfl⟩
  have hi : w.natAbs - 1 < ns.length := by omega
  have e : ns.getD (w.natAbs - 1) "" = ns[w.natAbs - 1] := by simp [List.getD, hi]
  rw [e]
  exact (hn.2 _ (List.getElem_mem hi)).2.1
theorem wordT_len {ns : List Str} (hn : NamesOk ns) {w : Int} : (wordT ns w).length ≤ 9 := by
  unfold wordT
  rw [len_tl, tl_append, List.length_append]
  have a : (tl (if 0 < w then ("" : Str) else "-")).length ≤ 1 := by split <;> decide
  have b : (tl (ns.getD (w.natAbs - 1) "")).length ≤ 8 := by
    by_cases hi : w.natAbs - 1 < ns.length
    · have e : ns.getD (w.natAbs - 1) "" = ns[w.natAbs - 1] := by simp [List.getD, hi]
      rw [e, ← len_tl]
      exact (hn.2 _ (List.getElem_mem hi)).2.1
    · have e : ns.getD (w.natAbs - 1) "" = "" := by simp [List.getD, hi]
      rw [e]
      decide
  omega
theorem sum_le {α : Type} {l : List α} {f : α → Nat} {b : Nat} (h : ∀ a ∈ l, f a ≤ b) : (l.map f).sum ≤ l.length * b := by
  induction l with
  | nil => simp
  | cons a l ih =>
    have := ih fun x hx => h x (by simp [hx])
    have := h a (by simp)
    rw [List.map_cons, List.sum_cons, List.length_cons, Nat.add_mul]
    omega
/-- how great a joined text is at most -/
theorem join_size {y : Str} {l : List Str} {b n : Nat} (hl : l.length ≤ n) (h : ∀ s ∈ l, s.length ≤ b) : (l.map (·.length)).sum + l.length * y.length ≤ n * (b + y.length) := by
  have := sum_le (l := l) (f := (·.length)) (b := b) h
  rw [Nat.mul_add]
  have h1 := Nat.mul_le_mul_right b hl
  have h2 := Nat.mul_le_mul_right y.length hl
  omega
theorem join_len {y : Str} {l : List Str} {b n : Nat} (hl : l.length ≤ n) (h : ∀ s ∈ l, s.length ≤ b) : (Txt.join y l).length ≤ n * (b + y.length) := Nat.le_trans (len_join y l) (join_size hl h)
theorem nd_le : ∀ (n : Nat) (l : List Nat), l.Nodup → (∀ a ∈ l, 1 ≤ a ∧ a ≤ n) → l.length ≤ n
  | 0, l, _, h => by
    cases l with
    | nil => simp
    | cons a l => have := h a (by simp); omega
  | n + 1, l, nd, h => by
    by_cases m : n + 1 ∈ l
    · have h1 := nd_le n (l.erase (n + 1)) (nd.erase _) fun a ha => by
        have h2 := (List.Nodup.mem_erase_iff nd).mp ha
        have := h a h2.2
        omega
      rw [List.length_erase_of_mem m] at h1
      omega
    · have := nd_le n l nd fun a ha => by
        have h2 := h a ha
        have : a ≠ n + 1 := fun e => m (e ▸ ha)
        omega
      omega
theorem met_len {n : Nat} {ws : List Int} (h : Met n ws) : ws.length ≤ n := by
  have := nd_le n (ws.map Int.natAbs) h.2 fun a ha => by
    obtain ⟨w, hw, rfl⟩ := List.mem_map.mp ha
    obtain ⟨h1, h2⟩ := h.1 w hw
    omega
  simpa using this
theorem nums_len {cnt : Nat} {ns : List Int} (h : NumsOk cnt ns) : ns.length ≤ cnt := by
  have := nd_le cnt (ns.map fun x => x.toNat + 1) (by
    rw [List.Nodup, List.pairwise_map]
    exact (List.Pairwise.and_mem.mp h.1).imp fun {a b} z e => by
      have := h.2 a z.1
      have := h.2 b z.2.1
      have := z.2.2
      omega) fun a ha => by
    obtain ⟨w, hw, rfl⟩ := List.mem_map.mp ha
    obtain ⟨h1, h2⟩ := h.2 w hw
    omega
  simpa using this
/-- each part of a rule is short, and there are few -/
theorem ruleW_size {ns : List Str} (hn : NamesOk ns) (h8 : ns.length ≤ 8) {cnt : Nat} (hc : cnt ≤ 24) {r : Rl} (h : RlOk ns.length cnt r) : (ruleW ns r).length ≤ 26 ∧ ∀ s ∈ ruleW ns r, s.length ≤ 31 := by
  cases r with
  | ors ws =>
    have := met_len h.1
    refine ⟨by simp [ruleW]; omega, fun s hs => ?_⟩
    rcases List.mem_cons.mp hs with rfl | hs
    · decide
    · obtain ⟨w, _, rfl⟩ := List.mem_map.mp hs
      have := wordT_len hn (w := w)
      omega
  | few c ms =>
    have := nums_len h.2.2
    refine ⟨by simp [ruleW]; omega, fun s hs => ?_⟩
    rcases List.mem_cons.mp hs with rfl | hs
    · decide
    · rcases List.mem_cons.mp hs with rfl | hs
      · exact numT_len h.1 (by have := h.2.1; omega)
      · obtain ⟨w, hw, rfl⟩ := List.mem_map.mp hs
        have := h.2.2.2 w hw
        exact numT_len (by omega) (by omega)
  | nt k =>
    refine ⟨by simp [ruleW], fun s hs => ?_⟩
    rcases List.mem_cons.mp hs with rfl | hs
    · decide
    · rw [List.mem_singleton.mp hs]
      exact numT_len h.1 (by have := h.2; omega)
theorem ruleT_len {ns : List Str} (hn : NamesOk ns) (h8 : ns.length ≤ 8) {cnt : Nat} (hc : cnt ≤ 24) {r : Rl} (h : RlOk ns.length cnt r) : (ruleT ns r).length ≤ 900 := by
  rw [ruleT_W]
  obtain ⟨h1, h2⟩ := ruleW_size hn h8 hc h
  exact Nat.le_trans (join_len h1 h2) (by decide)
end Tx
namespace M71
open Tx TL
section
variable {q : Sl → Sl → Prop} {x : Str → PyData → Sl → Prop}
theorem word_text (k : Nat) {t : Bool} {ns : List Str} {w : Int} (hn : NamesOk ns) (h0 : w ≠ 0) (h1 : w.natAbs ≤ ns.length) (h : q (.val (.str (wordT ns w))) .un) : WC (Phi md.tb (k + 1) "word_text" [.val (nmD t ns), .val (.int w)]) q x := by
  rw [en_word_text, wc_run]
  obtain ⟨nm, g, g8, gw⟩ := names_at hn h0 h1
  rw [gw] at h
  cases t
  all_goals
    by_cases c : 0 < w
    · simp [ir_word_text, nmD, c, g] at h ⊢
      exact ⟨by show 0 + nm.length ≤ 16777216; omega, h⟩
    · simp [ir_word_text, nmD, c, g] at h ⊢
      exact ⟨by show 1 + nm.length ≤ 16777216; omega, h⟩
theorem rule_text (k : Nat) {t : Bool} {ns : List Str} {cnt : Nat} {r : Rl} (hn : NamesOk ns) (h8 : ns.length ≤ 8) (hc : cnt ≤ 24) (hr : RlOk ns.length cnt r) (h : q (.val (.str (ruleT ns r))) .un) : WC (Phi md.tb (k + 2) "rule_text" [.val (nmD t ns), .val r.d]) q x := by
  rw [en_rule_text, wc_run]
  obtain ⟨z1, z2⟩ := ruleW_size hn h8 hc hr
  have z3 : ((ruleW ns r).map (·.length)).sum + (ruleW ns r).length * sp.length ≤ 16777216 := Nat.le_trans (join_size z1 z2) (by decide)
  rw [ruleT_W] at h
  cases r with
  | ors ws =>
    simp [ir_rule_text, Rl.d]
    refine w_mapA .int ws (fun w => .str (wordT ns w)) rfl (fun w hw J hJ => ?_) ?_
    · simp [unE]
      exact word_text k hn (hr.1.1 w hw).1 (by have := (hr.1.1 w hw).2; omega) (by simp; exact hJ _ rfl)
    · have l := met_len hr.1
      simp
      refine ⟨by omega, ?_⟩
      have e : PyData.str "or" :: ws.map (fun w => PyData.str (wordT ns w)) = (ruleW ns (.ors ws)).map .str := by simp [ruleW]
      rw [e, den_join_l, if_pos z3]
      exact h
  | few c ms =>
    have l2 := log2_small hr.1 (by have := hr.2.1; omega)
    simp [ir_rule_text, Rl.d, few_or, l2]
    refine w_mapA .int ms (fun w => .str (numT w)) rfl (fun w hw J hJ => ?_) ?_
    · have b := hr.2.2.2 w hw
      have l3 := log2_small b.1 (by omega)
      simp [unE, l3]
      exact hJ _ rfl
    · have l := nums_len hr.2.2
      simp
      refine ⟨by omega, ?_⟩
      have e : PyData.str "few" :: PyData.str (numT c) :: ms.map (fun w => PyData.str (numT w)) = (ruleW ns (.few c ms)).map .str := by simp [ruleW]
      rw [e, den_join_l, if_pos z3]
      exact h
  | nt j =>
    have l2 := log2_small hr.1 (by have := hr.2; omega)
    have l3 := numT_len hr.1 (by have := hr.2; omega)
    simp [ir_rule_text, Rl.d, not_or', not_few, l2]
    rw [ruleW, ← not_join] at h
    exact ⟨by show 4 + (numT j).length ≤ 16777216; omega, h⟩
end
end M71
end PyI

namespace PyI
open PySem PySem.Spec PyProof.Rows L2
theorem RlOk.mono {n a b : Int} {r : Rl} (h : RlOk n a r) (l : a ≤ b) : RlOk n b r := by
  cases r with
  | ors ws => exact h
  | few c ns => exact ⟨h.1, h.2.1, h.2.2.1, fun x hx => by have := h.2.2.2 x hx; omega⟩
  | nt k => exact ⟨h.1, by have := h.2; omega⟩
theorem AllOk.at {n : Nat} {rs : List Rl} (h : AllOk n rs) {r : Rl} (hr : r ∈ rs) (h24 : rs.length ≤ 24) : RlOk n ((24 : Nat) : Int) r := by
  obtain ⟨i, hi⟩ := List.mem_iff_getElem?.mp hr
  have := (List.getElem?_eq_some_iff.mp hi).1
  exact (h i r hi).mono (by omega)
namespace Tx
open TL
structure HOk (ns : List Str) (rs : List Rl) (ms : List Int) (ws : List Ws) : Prop where
  nm : NamesOk ns
  n8 : ns.length ≤ 8
  r24 : rs.length ≤ 24
  all : AllOk ns.length rs
  mu : NumsOk rs.length ms
  w12 : ws.length ≤ 12
  wok : ∀ w ∈ ws, WsOk rs.length w
def hD (ns : List Str) (rs : List Rl) (ms : List Int) (ws : List Ws) : PyData := .tuple [.int ns.length, .list (rs.map Rl.d), .tuple (ms.map .int), .list (ws.map Ws.d)]
section
variable {ns : List Str} {rs : List Rl} {ms : List Int} {ws : List Ws} (H : HOk ns rs ms ws)
include H
theorem HOk.musts_size : ("musts" :: ms.map numT : List Str).length ≤ 25 ∧ ∀ s ∈ ("musts" :: ms.map numT : List Str), s.length ≤ 31 := by
  have := nums_len H.mu
  have := H.r24
  refine ⟨by simp; omega, fun s hs => ?_⟩
  rcases List.mem_cons.mp hs with rfl | hs
  · decide
  · obtain ⟨w, hw, rfl⟩ := List.mem_map.mp hs
    have := H.mu.2 w hw
    exact numT_len (by omega) (by omega)
theorem HOk.names_size : ("names" :: ns : List Str).length ≤ 9 ∧ ∀ s ∈ ("names" :: ns : List Str), s.length ≤ 8 := by
  have := H.n8
  refine ⟨by simp; omega, fun s hs => ?_⟩
  rcases List.mem_cons.mp hs with rfl | hs
  · decide
  · exact (H.nm.2 s hs).2.1
omit H in
theorem wish_size {cnt : Nat} (hc : cnt ≤ 24) {w : Ws} (h : WsOk cnt w) : ∀ s ∈ (["wish", numT w.no, numT w.rank, numT w.heavy] : List Str), s.length ≤ 31 := by
  obtain ⟨h1, h2, h3, h4, h5, h6⟩ := h
  intro s hs
  simp at hs
  rcases hs with rfl | rfl | rfl | rfl
  · decide
  · exact numT_len h1 (by omega)
  · exact numT_len (by omega) (by omega)
  · exact numT_len (by omega) h6
theorem HOk.rows_size : (rowsT ns rs ms ws).length ≤ 38 ∧ ∀ s ∈ rowsT ns rs ms ws, s.length ≤ 900 := by
  have h1 := H.r24
  have h2 := H.w12
  refine ⟨by simp [rowsT]; omega, fun s hs => ?_⟩
  simp only [rowsT, List.mem_cons, List.mem_append, List.mem_map] at hs
  rcases hs with rfl | ⟨r, hr, rfl⟩ | rfl | ⟨w, hw, rfl⟩
  · exact Nat.le_trans (join_len H.names_size.1 H.names_size.2) (by decide)
  · exact ruleT_len H.nm H.n8 (Nat.le_refl _) (H.all.at hr h1)
  · exact Nat.le_trans (join_len H.musts_size.1 H.musts_size.2) (by decide)
  · exact Nat.le_trans (join_len (n := 4) (by simp) (wish_size h1 (H.wok w hw))) (by decide)
end
theorem wish_join (w : Ws) : ("wish " : Str) ++ Txt.join sp [numT w.no, numT w.rank, numT w.heavy] = wishT w := by
  unfold wishT
  rw [join_cons (a := ("wish" : Str))]
  exact ext_tl (by simp only [tl_append]; rfl)
end Tx
namespace M71
open Tx TL
section
variable {q : Sl → Sl → Prop} {x : Str → PyData → Sl → Prop}
@[simp] theorem den_listOf_nm (t : Bool) (ns : List Str) : den .listOf [nmD t ns] = some (.lst (ns.map .str)) := by cases t <;> rfl
theorem house_text (k : Nat) {t : Bool} {ns : List Str} {rs : List Rl} {ms : List Int} {ws : List Ws} (H : HOk ns rs ms ws) (h : q (.val (.str (Txt.join lf (rowsT ns rs ms ws)))) .un) : WC (Phi md.tb (k + 3) "house_text" [.val (nmD t ns), .val (hD ns rs ms ws)]) q x := by
  rw [en_house_text, wc_run]
  obtain ⟨s1, s2⟩ := H.names_size
  have j1 : (("names" :: ns : List Str).map (·.length)).sum + ("names" :: ns : List Str).length * sp.length ≤ 16777216 := Nat.le_trans (join_size s1 s2) (by decide)
  have e1 : PyData.str "names" :: ns.map .str = ("names" :: ns : List Str).map .str := rfl
  have l1 : ns.length + 1 ≤ 16777216 := by have := H.n8; omega
  have h24 := H.r24
  have h12 := H.w12
  simp [ir_house_text, hD, l1, Nat.add_comm 1]
  rw [e1, den_join_l, if_pos j1]
  simp
  refine w_mapA Rl.d rs (fun r => .str (ruleT ns r)) rfl (fun r hr J hJ => ?_) ?_
  · simp [unE]
    exact rule_text (cnt := 24) k H.nm H.n8 (by decide) (H.all.at hr H.r24) (by simp; exact hJ _ rfl)
  · simp
    refine ⟨by omega, ?_⟩
    refine w_mapA .int ms (fun r => .str (numT r)) rfl (fun r hr J hJ => ?_) ?_
    · have b := H.mu.2 r hr
      have l3 := log2_small b.1 (by omega)
      simp [unE, l3]
      exact hJ _ rfl
    · have l := nums_len H.mu
      have e2 : PyData.str "musts" :: ms.map (fun r => .str (numT r)) = ("musts" :: ms.map numT : List Str).map .str := by simp
      obtain ⟨m1, m2⟩ := H.musts_size
      have j2 : (("musts" :: ms.map numT : List Str).map (·.length)).sum + ("musts" :: ms.map numT : List Str).length * sp.length ≤ 16777216 := Nat.le_trans (join_size m1 m2) (by decide)
      simp
      refine ⟨by omega, ?_⟩
      rw [e2, den_join_l, if_pos j2]
      simp
      rw [if_pos (by omega)]
      simp
      refine w_for (fun i Γ => ∃ z, Γ = [.val (nmD t ns), .val (hD ns rs ms ws), .val (.int ns.length), .val (.list (rs.map Rl.d)), .val (.tuple (ms.map .int)), .val (.list (ws.map Ws.d)), .lst ((Txt.join sp ("names" :: ns) :: (rs.map (ruleT ns) ++ mustsT ms :: (ws.take i).map wishT)).map .str), z, .un, .un, .un]) ⟨_, by simp [hD, mustsT]; rfl⟩ ?_ ?_
      · rintro J hJ i d Γ hd ⟨z, rfl⟩
        obtain ⟨w, hw, rfl⟩ := map_get hd
        have hi : i < ws.length := (List.getElem?_eq_some_iff.mp hw).1
        have wo := H.wok w (List.mem_of_getElem? hw)
        have j3 : (([numT w.no, numT w.rank, numT w.heavy] : List Str).map (·.length)).sum + ([numT w.no, numT w.rank, numT w.heavy] : List Str).length * sp.length ≤ 16777216 := Nat.le_trans (join_size (n := 4) (b := 31) (by simp) fun s hs => wish_size (cnt := rs.length) H.r24 wo s (by simp at hs ⊢; exact .inr hs)) (by decide)
        have l4 := join_size (y := sp) (l := ["wish", numT w.no, numT w.rank, numT w.heavy]) (n := 4) (b := 31) (by simp) fun s hs => wish_size (cnt := rs.length) H.r24 wo s hs
        obtain ⟨w1, w2, w3, w4, w5, w6⟩ := wo
        simp [Ws.d]
        refine w_mapA .int [w.no, w.rank, w.heavy] (fun r => .str (numT r)) rfl (fun r hr J hJ => ?_) ?_
        · have l3 : r.natAbs.log2 < 1920 := by
            simp at hr
            rcases hr with rfl | rfl | rfl
            · exact log2_small w1 (by omega)
            · exact log2_small (by omega) (by omega)
            · exact log2_small (by omega) (by omega)
          simp [unE, l3]
          exact hJ _ rfl
        · simp
          have e4 : [PyData.str "wish", .str (numT w.no), .str (numT w.rank), .str (numT w.heavy)] = (["wish", numT w.no, numT w.rank, numT w.heavy] : List Str).map .str := rfl
          rw [e4, den_join_l, if_pos (Nat.le_trans l4 (by decide))]
          simp
          rw [if_pos (by omega)]
          exact hJ _ _ ⟨_, by rw [take_snoc hw]; simp [wishT]; rfl⟩
      · rintro Γ ⟨z, rfl⟩
        rw [List.length_map, List.take_length]
        obtain ⟨r1, r2⟩ := H.rows_size
        have e5 : (Txt.join sp ("names" :: ns) :: (rs.map (ruleT ns) ++ mustsT ms :: ws.map wishT)) = rowsT ns rs ms ws := rfl
        rw [e5]
        simp only [kSeq_nx, ws_seq, ws_ret, we_methE, we_c, kMethE_val, mkOf_join, kindOk_s, true_and, wes_cons, we_v]
        simp
        have j5 : ((rowsT ns rs ms ws).map (·.length)).sum + (rowsT ns rs ms ws).length * lf.length ≤ 16777216 := Nat.le_trans (join_size r1 r2) (by decide)
        exact ⟨j5, h⟩
end
end M71
end PyI

namespace PyI
open PySem PySem.Spec PyProof.Rows L2
namespace M71
open Tx TL
section
variable {q : Sl → Sl → Prop} {x : Str → PyData → Sl → Prop}
theorem law_rule_row (k : Nat) {ns : List Str} {cnt : Nat} {r : Rl} (hn : NamesOk ns) (h8 : ns.length ≤ 8) (hc : cnt ≤ 24) (hr : RlOk ns.length cnt r) (h : q (.val (.str (ruleT ns r))) .un) : WC (Phi md.tb (k + 1) "_law_rule_row" [.val (.list (ns.map .str)), .val r.d]) q x := by
  rw [en__law_rule_row, wc_run]
  obtain ⟨z1, z2⟩ := ruleW_size hn h8 hc hr
  have z3 : ((ruleW ns r).map (·.length)).sum + (ruleW ns r).length * sp.length ≤ 16777216 := Nat.le_trans (join_size z1 z2) (by decide)
  rw [ruleT_W] at h
  cases r with
  | ors ws =>
    simp [ir__law_rule_row, Rl.d]
    refine w_mapA .int ws (fun w => .str (wordT ns w)) rfl (fun w hw J hJ => ?_) ?_
    · obtain ⟨nm, g, g8, gw⟩ := names_at hn (hr.1.1 w hw).1 (by have := (hr.1.1 w hw).2; omega)
      rw [gw] at hJ
      by_cases c : 0 < w
      · simp [unE, c, g] at hJ ⊢
        exact ⟨by show 0 + nm.length ≤ 16777216; omega, hJ _ rfl⟩
      · simp [unE, c, g] at hJ ⊢
        exact ⟨by show 1 + nm.length ≤ 16777216; omega, hJ _ rfl⟩
    · have l := met_len hr.1
      simp
      refine ⟨by omega, ?_⟩
      have e : PyData.str "or" :: ws.map (fun w => PyData.str (wordT ns w)) = (ruleW ns (.ors ws)).map .str := by simp [ruleW]
      rw [e, den_join_l, if_pos z3]
      exact h
  | few c ms =>
    have l2 := log2_small hr.1 (by have := hr.2.1; omega)
    have l := nums_len hr.2.2
    simp [ir__law_rule_row, Rl.d, few_or]
    refine ⟨by omega, ?_⟩
    have e0 : PyData.int c :: ms.map .int = (c :: ms).map .int := rfl
    rw [e0]
    refine w_mapA .int (c :: ms) (fun w => .str (numT w)) rfl (fun w hw J hJ => ?_) ?_
    · have l3 : w.natAbs.log2 < 1920 := by
        rcases List.mem_cons.mp hw with rfl | hw
        · exact l2
        · have b := hr.2.2.2 w hw
          exact log2_small b.1 (by omega)
      simp [unE, l3]
      exact hJ _ rfl
    · simp
      refine ⟨by omega, ?_⟩
      have e : PyData.str "few" :: PyData.str (numT c) :: ms.map (fun w => PyData.str (numT w)) = (ruleW ns (.few c ms)).map .str := by simp [ruleW]
      rw [e, den_join_l, if_pos z3]
      exact h
  | nt j =>
    have l2 := log2_small hr.1 (by have := hr.2; omega)
    have l3 := numT_len hr.1 (by have := hr.2; omega)
    simp [ir__law_rule_row, Rl.d, not_or', not_few, l2]
    rw [ruleW, ← not_join] at h
    exact ⟨by show 4 + (numT j).length ≤ 16777216; omega, h⟩
theorem law_written (k : Nat) {ns : List Str} {rs : List Rl} {ms : List Int} {ws : List Ws} (H : HOk ns rs ms ws) (h : q (.val (.list ((rowsT ns rs ms ws).map .str))) .un) : WC (Phi md.tb (k + 2) "_law_written" [.val (.list (ns.map .str)), .val (hD ns rs ms ws)]) q x := by
  rw [en__law_written, wc_run]
  obtain ⟨s1, s2⟩ := H.names_size
  have j1 : (("names" :: ns : List Str).map (·.length)).sum + ("names" :: ns : List Str).length * sp.length ≤ 16777216 := Nat.le_trans (join_size s1 s2) (by decide)
  have e1 : PyData.str "names" :: ns.map .str = ("names" :: ns : List Str).map .str := rfl
  have l1 : ns.length + 1 ≤ 16777216 := by have := H.n8; omega
  have h24 := H.r24
  have h12 := H.w12
  have lm := nums_len H.mu
  simp [ir__law_written, hD, l1, Nat.add_comm 1]
  rw [e1, den_join_l, if_pos j1]
  simp
  refine w_for (fun i Γ => ∃ z, Γ = [.val (.list (ns.map .str)), .val (hD ns rs ms ws), .lst ((Txt.join sp ("names" :: ns) :: (rs.take i).map (ruleT ns)).map .str), z, .un, .un, .un, .un]) ⟨_, by simp [hD]; rfl⟩ ?_ ?_
  · rintro J hJ i d Γ hd ⟨z, rfl⟩
    obtain ⟨r, hr, rfl⟩ := map_get hd
    have hi : i < rs.length := (List.getElem?_eq_some_iff.mp hr).1
    simp
    refine law_rule_row (cnt := 24) k H.nm H.n8 (by decide) (H.all.at (List.mem_of_getElem? hr) H.r24) ?_
    simp
    rw [if_pos (by omega)]
    exact hJ _ _ ⟨_, by rw [take_snoc hr]; simp; rfl⟩
  · rintro Γ ⟨z, rfl⟩
    rw [List.length_map, List.take_length]
    simp [hD]
    refine w_mapA .int ms (fun r => .str (numT r)) rfl (fun r hr J hJ => ?_) ?_
    · have b := H.mu.2 r hr
      have l3 := log2_small b.1 (by omega)
      simp [unE, l3]
      exact hJ _ rfl
    · have e2 : PyData.str "musts" :: ms.map (fun r => .str (numT r)) = ("musts" :: ms.map numT : List Str).map .str := by simp
      obtain ⟨m1, m2⟩ := H.musts_size
      have j2 : (("musts" :: ms.map numT : List Str).map (·.length)).sum + ("musts" :: ms.map numT : List Str).length * sp.length ≤ 16777216 := Nat.le_trans (join_size m1 m2) (by decide)
      simp
      refine ⟨by omega, ?_⟩
      rw [e2, den_join_l, if_pos j2]
      simp
      rw [if_pos (by omega)]
      simp
      refine w_for (fun i Γ => ∃ z z2, Γ = [.val (.list (ns.map .str)), .val (hD ns rs ms ws), .lst ((Txt.join sp ("names" :: ns) :: (rs.map (ruleT ns) ++ mustsT ms :: (ws.take i).map wishT)).map .str), z, z2, .un, .un, .un]) ⟨_, _, by simp [hD, mustsT]; exact ⟨rfl, rfl⟩⟩ ?_ ?_
      · rintro J hJ i d Γ hd ⟨z, z2, rfl⟩
        obtain ⟨w, hw, rfl⟩ := map_get hd
        have hi : i < ws.length := (List.getElem?_eq_some_iff.mp hw).1
        have wo := H.wok w (List.mem_of_getElem? hw)
        have j3 : (([numT w.no, numT w.rank, numT w.heavy] : List Str).map (·.length)).sum + ([numT w.no, numT w.rank, numT w.heavy] : List Str).length * sp.length ≤ 16777216 := Nat.le_trans (join_size (n := 4) (b := 31) (by simp) fun s hs => wish_size (cnt := rs.length) H.r24 wo s (by simp at hs ⊢; exact .inr hs)) (by decide)
        have j4 : (Txt.join sp [numT w.no, numT w.rank, numT w.heavy]).length ≤ 4 * (31 + sp.length) := join_len (by simp) fun s hs => wish_size (cnt := rs.length) H.r24 wo s (by simp at hs ⊢; exact .inr hs)
        have jw : ("wish " : Str) ++ Txt.join (" " : Str) [numT w.no, numT w.rank, numT w.heavy] = wishT w := wish_join w
        obtain ⟨w1, w2, w3, w4, w5, w6⟩ := wo
        simp [Ws.d]
        refine w_mapA .int [w.no, w.rank, w.heavy] (fun r => .str (numT r)) rfl (fun r hr J hJ => ?_) ?_
        · have l3 : r.natAbs.log2 < 1920 := by
            simp at hr
            rcases hr with rfl | rfl | rfl
            · exact log2_small w1 (by omega)
            · exact log2_small (by omega) (by omega)
            · exact log2_small (by omega) (by omega)
          simp [unE, l3]
          exact hJ _ rfl
        · have e4 : [PyData.int w.no, .int w.rank, .int w.heavy].map (fun r => r) = [PyData.int w.no, .int w.rank, .int w.heavy] := rfl
          have e5 : ([w.no, w.rank, w.heavy].map fun r => PyData.str (numT r)) = ([numT w.no, numT w.rank, numT w.heavy] : List Str).map .str := rfl
          rw [e5]
          simp only [kMethE_lst, kEs_lst, wes_nil, kCons_ap, kMeth_ap, rslv_r, rslv_nil, Option.map]
          rw [den_join_l, if_pos j3]
          simp
          refine ⟨Nat.le_trans (Nat.add_le_add_left j4 5) (by decide), ?_⟩
          rw [if_pos (by omega)]
          exact hJ _ _ ⟨_, _, by rw [take_snoc hw]; simp [jw]; exact ⟨rfl, rfl⟩⟩
      · rintro Γ ⟨z, z2, rfl⟩
        rw [List.length_map, List.take_length]
        have e5 : (Txt.join sp ("names" :: ns) :: (rs.map (ruleT ns) ++ mustsT ms :: ws.map wishT)) = rowsT ns rs ms ws := rfl
        rw [e5]
        simp
        exact h
end
end M71
end PyI

namespace PyI
open PySem PySem.Spec PyProof.Rows L2
namespace Tx
open TL
theorem items_str {w : Str} (h : w.length ≤ 16777216) : itemsOf (.str w) = some ((tl w).map fun c => .str (one c)) := by
  show (if lineB w.length then some _ else none) = _
  rw [if_pos (by simpa using h)]
  rfl
theorem fig_mem (c : Nat) : c ∈ ("0123456789" : Str).cps.toList ↔ 48 ≤ c ∧ c ≤ 57 := by
  have e : ("0123456789" : Str).cps.toList = List.range' 48 10 := by decide +kernel
  rw [e, List.mem_range'_1]
  omega
theorem abc_mem (c : Nat) : c ∈ ("abcdefghijklmnopqrstuvwxyz" : Str).cps.toList ↔ 97 ≤ c ∧ c ≤ 122 := by
  have e : ("abcdefghijklmnopqrstuvwxyz" : Str).cps.toList = List.range' 97 26 := tl_abc
  rw [e, List.mem_range'_1]
  omega
theorem one_eq (c : Nat) (z : Str) : ((⟨#[c]⟩ : Str) = z) ↔ tl z = [c] := ⟨fun h => by rw [← h], fun h => ext_tl h.symm⟩
theorem num_int {w : Str} (h1 : 1 ≤ w.length) (h2 : w.length ≤ 60) (h3 : ∀ c ∈ tl w, 48 ≤ c ∧ c ≤ 57) : PySem.intText? w = some (NumText.digitsVal (tl w) : Nat) := by
  refine intText_digits (fun c hc => h3 c hc) ?_ ?_
  · intro e
    rw [len_tl, show tl w = [] from e] at h1
    simp at h1
  · omega
theorem bare_cut (t : Str) : cutS t (some 1) none = bareT t := ext_tl (by rw [tl_cut1]; rfl)
theorem tl_cut0 (z : Str) : tl (cutS z none (some 1)) = (tl z).take 1 := by
  show ((tl z).drop (HT.sIx z.length 0 none)).take (HT.sIx z.length z.length (some 1) - HT.sIx z.length 0 none) = _
  have e : HT.sIx z.length z.length (some 1) = min 1 z.length := HT.sIx_nat z.length z.length 1
  rw [e, HT.sIx_none, List.drop_zero, len_tl]
  cases h : tl z with
  | nil => simp
  | cons a b => simp
theorem dash_cut (t : Str) : (cutS t none (some 1) = ("-" : Str)) ↔ (tl t).head? = some 45 := by
  constructor
  · intro h
    have e := congrArg tl h
    rw [tl_cut0] at e
    cases q : tl t with
    | nil => rw [q] at e; exact absurd e (by decide)
    | cons a b => rw [q] at e; have : [a] = [45] := e; simp at this; simp [this]
  · intro h
    refine ext_tl ?_
    rw [tl_cut0]
    cases q : tl t with
    | nil => rw [q] at h; simp at h
    | cons a b => rw [q] at h; simp at h; subst h; rfl
theorem den_index_ss (ns : List Str) (t : Str) : den .index [.list (ns.map .str), .str t] = (ns.findIdx? fun z => decide (z = t)).map fun j => .val (.int j) := by
  show (if (flatD (.str t) && (ns.map PyData.str).all flatD) = true then ((ns.map PyData.str).findIdx? fun z => PyData.eqv z (.str t)).map (fun j => Sl.val (.int j)) else none) = _
  have e : ((fun z => PyData.eqv z (.str t)) ∘ PyData.str) = fun z => decide (z = t) := by
    funext z
    by_cases h : z = t
    · subst h; simp [PyData.eqv]
    · simp [PyData.eqv, h]
  rw [if_pos (by simp [flatD]), List.findIdx?_map, e]
  cases ns.findIdx? (fun z => decide (z = t)) <;> rfl
theorem find_none {ns : List Str} {t : Str} (h : t ∉ ns) : (ns.findIdx? fun z => decide (z = t)) = none := by
  rw [List.findIdx?_eq_none_iff]
  intro z hz
  simp only [decide_eq_false_iff_not]
  exact fun e => h (e ▸ hz)
theorem find_some {ns : List Str} {t : Str} (h : t ∈ ns) : ∃ i, (ns.findIdx? fun z => decide (z = t)) = some i := by
  cases q : ns.findIdx? fun z => decide (z = t) with
  | some i => exact ⟨i, rfl⟩
  | none =>
    rw [List.findIdx?_eq_none_iff] at q
    have := q t h
    simp at this
instance (s : Str) : Decidable (Nm s) := by unfold Nm; infer_instance
instance (l : List Str) : Decidable (NamesOk l) := by unfold NamesOk; infer_instance
end Tx
namespace M71
open Tx TL
section
variable {q : Sl → Sl → Prop} {x : Str → PyData → Sl → Prop}
theorem number_of (k : Nat) {w : Str} (hw : w.length ≤ 16777216) (h : q (.val (optD (rdNum w))) .un) : WC (Phi md.tb (k + 1) "number_of" [.val (.str w)]) q x := by
  rw [en_number_of, wc_run]
  unfold rdNum at h
  by_cases c1 : 1 ≤ w.length
  · by_cases c2 : w.length ≤ 60
    · have b1 : (1 : Int) ≤ w.length := by omega
      have b2 : (w.length : Int) ≤ 60 := by omega
      simp [ir_number_of, hw, b1, b2, items_str hw]
      refine w_mapA (fun c => .str (one c)) (tl w) (fun c => .bool (decide (c ∈ ("0123456789" : Str).cps.toList))) rfl (fun c hc J hJ => ?_) ?_
      · simp [unE, one] at hJ ⊢
        exact hJ _ rfl
      · by_cases c3 : ∀ c ∈ tl w, 48 ≤ c ∧ c ≤ 57
        · have c3' : (List.map (fun c => decide (c ∈ ("0123456789" : Str).cps.toList)) (tl w)).all id = true := by
            simp only [List.all_map, List.all_eq_true, Function.comp, id, decide_eq_true_eq]
            exact fun c hc => (fig_mem c).mpr (c3 c hc)
          simp only [kOp_lst, wo_nil, kCons_ap, kPrim_ap, rslv_r, rslv_nil, Option.map, den_all, bitsOf_mapf, kVal_some, kNot_b]
          rw [c3']
          cases e : tl w with
          | nil => rw [len_tl, e] at c1; simp at c1
          | cons d r =>
            have a0 : w.cps[0]? = some d := by rw [← Array.getElem?_toList, show w.cps.toList = d :: r from e]; rfl
            have t0 : tl ("0" : Str) = [48] := by decide
            have ni := num_int c1 c2 c3
            have di : den .int [.str w] = some (.val (.int (NumText.digitsVal (tl w) : Nat))) := by
              show (match PySem.intText? w with | some n => if w.length ≤ 640 then some (Sl.val (.int n)) else none | none => none) = _
              rw [ni]
              exact if_pos (by omega)
            by_cases c4 : d = 48
            · by_cases c5 : w = "0"
              · rw [if_pos ⟨c1, c2, c3, fun z => z.2 c5⟩] at h
                simp [hw, a0, one_eq, t0, c4, c5]
                rw [c5] at di h
                rw [di]
                exact ⟨by decide, h⟩
              · rw [if_neg (fun z => z.2.2.2 ⟨by rw [e, c4]; rfl, c5⟩)] at h
                simp [hw, a0, one_eq, t0, c4, c5]
                exact h
            · rw [if_pos ⟨c1, c2, c3, fun z => c4 (by have := z.1; rw [e] at this; simpa using this)⟩] at h
              have c4' : ¬ 48 = d := fun z => c4 z.symm
              simp [hw, a0, one_eq, t0, c4, c4']
              rw [di]
              exact h
        · have c3' : (List.map (fun c => decide (c ∈ ("0123456789" : Str).cps.toList)) (tl w)).all id = false := by
            rw [Bool.eq_false_iff]
            intro z
            simp only [List.all_map, List.all_eq_true, Function.comp, id, decide_eq_true_eq] at z
            exact c3 fun c hc => (fig_mem c).mp (z c hc)
          simp only [kOp_lst, wo_nil, kCons_ap, kPrim_ap, rslv_r, rslv_nil, Option.map, den_all, bitsOf_mapf, kVal_some, kNot_b]
          rw [c3']
          rw [if_neg (fun z => c3 z.2.2.1)] at h
          simp
          exact h
    · have b1 : (1 : Int) ≤ w.length := by omega
      have b2 : ¬ (w.length : Int) ≤ 60 := by omega
      rw [if_neg (fun z => c2 z.2.1)] at h
      simp [ir_number_of, hw, b1, b2]
      exact h
  · have b1 : ¬ (1 : Int) ≤ w.length := by omega
    rw [if_neg (fun z => c1 z.1)] at h
    simp [ir_number_of, hw, b1]
    exact h
theorem word_of (k : Nat) {ns : List Str} {t : Str} (ht : t.length ≤ 16777216) (h : q (.val (optD (rdWord ns t))) .un) : WC (Phi md.tb (k + 1) "word_of" [.val (.list (ns.map .str)), .val (.str t)]) q x := by
  rw [en_word_of, wc_run]
  unfold rdWord at h
  by_cases c : t ∈ ns
  · obtain ⟨i, hi⟩ := find_some c
    rw [hi] at h
    simp [ir_word_of, c, den_index_ss, hi]
    exact h
  · rw [find_none c] at h
    by_cases c2 : (tl t).head? = some 45
    · rw [if_pos c2] at h
      by_cases c3 : bareT t ∈ ns
      · obtain ⟨i, hi⟩ := find_some c3
        rw [hi] at h
        simp [ir_word_of, c, ht, dash_cut, c2, bare_cut, c3, den_index_ss, hi]
        exact h
      · rw [find_none c3] at h
        simp [ir_word_of, c, ht, dash_cut, c2, bare_cut, c3]
        exact h
    · rw [if_neg c2] at h
      simp [ir_word_of, c, ht, dash_cut, c2]
      exact h
theorem is_number_in (k : Nat) {o : Option Int} {lo hi : Int} (h : q (.val (.bool (inB o lo hi))) .un) : WC (Phi md.tb (k + 2) "is_number_in" [.val (optD o), .val (.int lo), .val (.int hi)]) q x := by
  rw [en_is_number_in, wc_run]
  cases o with
  | none =>
    simp [ir_is_number_in, optD]
    rw [en_is_whole, wc_run]
    simp [ir_is_whole, isiB, isiS, tyOf]
    exact h
  | some i =>
    simp [ir_is_number_in, optD]
    rw [en_is_whole, wc_run]
    by_cases c : lo ≤ i
    · by_cases c2 : i ≤ hi
      · simp [ir_is_whole, isiB, isiS, tyOf, c, c2]
        simpa [inB, c, c2] using h
      · simp [ir_is_whole, isiB, isiS, tyOf, c, c2]
        simpa [inB, c, c2] using h
    · simp [ir_is_whole, isiB, isiS, tyOf, c]
      simpa [inB, c] using h
end
end M71
end PyI

namespace PyI
open PySem PySem.Spec PyProof.Rows L2
@[simp] theorem cutD_tail (xs : List PyData) : cutD xs (some 1) none = xs.tail := by
  have e : HT.sIx xs.length 0 (some 1) = min 1 xs.length := HT.sIx_nat xs.length 0 1
  unfold cutD
  rw [e, HT.sIx_none, List.take_of_length_le (by rw [List.length_drop]; omega)]
  cases xs with
  | nil => simp
  | cons a b => simp
namespace Tx
open TL
@[simp] theorem isNone_opt (o : Option Int) : isNone (optD o) = o.isNone := by cases o <;> rfl
theorem allS_iff : ∀ (l : List (Option Int)) (p : Int → Prop) [DecidablePred p], (∀ o ∈ l, ∃ i, o = some i ∧ p i) → ∃ ws : List Int, l = ws.map some ∧ ∀ w ∈ ws, p w
  | [], _, _, _ => ⟨[], rfl, by simp⟩
  | o :: l, p, _, h => by
    obtain ⟨i, rfl, hi⟩ := h o (by simp)
    obtain ⟨ws, rfl, hw⟩ := allS_iff l p fun o ho => h o (by simp [ho])
    exact ⟨i :: ws, rfl, fun w hm => by
      rcases List.mem_cons.mp hm with rfl | hm
      · exact hi
      · exact hw w hm⟩
theorem allS_inv : ∀ {l : List (Option Int)} {ws : List Int}, allS l = some ws → l = ws.map some
  | [], ws, h => by simp [allS] at h; subst h; rfl
  | none :: l, ws, h => by simp [allS] at h
  | some i :: l, ws, h => by
    simp only [allS] at h
    cases q : allS l with
    | none => rw [q] at h; cases h
    | some vs =>
      rw [q] at h
      cases h
      rw [allS_inv q]
      rfl
end Tx
namespace M71
open Tx TL
section
variable {q : Sl → Sl → Prop} {x : Str → PyData → Sl → Prop}
theorem is_row (k : Nat) {d : PyData} (h : q (.val (.bool (isiB d "list" || isiB d "tuple"))) .un) : WC (Phi md.tb (k + 1) "is_row" [.val d]) q x := by
  rw [en_is_row, wc_run]
  simp [ir_is_row]
  exact h
theorem row_rule (k : Nat) {ns : List Str} {w : Str} {r : List Str} (hw : ∀ s ∈ r, s.length ≤ 16777216) (h : q (.val (rowRule ns (w :: r)).d) .un) : WC (Phi md.tb (k + 2) "row_rule" [.val (.list (ns.map .str)), .val (.list ((w :: r).map .str))]) q x := by
  rw [en_row_rule, wc_run]
  unfold rowRule at h
  dsimp only at h
  by_cases c : w = "or"
  · rw [if_pos c] at h
    simp [ir_row_rule, c]
    refine w_mapA .str r (fun s => optD (rdWord ns s)) rfl (fun s hs J hJ => ?_) ?_
    · simp [unE]
      exact word_of k (hw s hs) (by simp; exact hJ _ rfl)
    · simp
      simpa [Raw.d, Function.comp_def] using h
  · rw [if_neg c] at h
    simp [ir_row_rule, c]
    refine w_mapA .str r (fun s => optD (rdNum s)) rfl (fun s hs J hJ => ?_) ?_
    · simp [unE]
      exact number_of k (hw s hs) (by simp; exact hJ _ rfl)
    · cases r with
      | nil =>
        by_cases c2 : w = "few"
        · simp [c2, not_few]
          have e : ¬ (("few" : Str) = "not") := by decide +kernel
          simp [e]
          exact h
        · by_cases c3 : w = "not"
          · simp [c2, c3]
            have e : ¬ (("not" : Str) = "few") := by decide +kernel
            simp [e]
            exact h
          · simp [c2, c3]
            exact h
      | cons a l =>
        by_cases c2 : w = "few"
        · rw [List.map_cons] at h
          dsimp only at h
          rw [if_pos c2] at h
          simp [c2]
          simpa [Raw.d, Function.comp_def] using h
        · rw [List.map_cons] at h
          dsimp only at h
          rw [if_neg c2] at h
          by_cases c3 : w = "not"
          · have e : ¬ (("not" : Str) = "few") := by decide +kernel
            cases l with
            | nil =>
              simp [c3, e]
              simpa [Raw.d, c3] using h
            | cons b l =>
              have e2 : ¬ ((l.length : Int) + 1 + 1 = 1) := by omega
              simp [c3, e, e2]
              simpa [Raw.d] using h
          · simp [c2, c3]
            simpa [c3, Raw.d] using h
end
end M71
end PyI

namespace PyI
open PySem PySem.Spec PyProof.Rows L2
namespace Tx
open TL
def optL : Option (List Int) → PyData
  | none => .none
  | some ws => .tuple (ws.map .int)
theorem lenset_ints {ws : List Int} (h : ws.Nodup) (hl : ws.length ≤ 4000) : den .lenset [.list (ws.map .int)] = some (.val (.int ws.length)) := by
  show dLenSet [.list (ws.map .int)] = _
  unfold dLenSet
  simp only [intsOf_map]
  exact if_pos ⟨h, hl⟩
theorem opt_ints (ws : List Int) : (ws.map some).map optD = ws.map PyData.int := by
  rw [List.map_map]
  rfl
end Tx
namespace M71
open Tx TL
section
variable {q : Sl → Sl → Prop} {x : Str → PyData → Sl → Prop}
theorem made_words (k : Nat) {n : Int} {l : List (Option Int)} (hl : l.length ≤ 4000) (hnd : ∀ ws : List Int, l = ws.map some → (∀ w ∈ ws, -n ≤ w ∧ w ≤ n ∧ w ≠ 0) → (ws.map Int.natAbs).Nodup) (h : q (.val (optL (madeWords n l))) .un) : WC (Phi md.tb (k + 3) "made_words" [.val (.int n), .val (.list (l.map optD))]) q x := by
  rw [en_made_words, wc_run]
  simp [ir_made_words]
  refine is_row (k + 1) ?_
  simp [isiB, isiS, tyOf]
  refine w_mapA optD l (fun o => .bool (inB o (-n) n && !decide (o = some 0))) rfl (fun o ho J hJ => ?_) ?_
  · simp [unE]
    refine is_number_in k ?_
    cases o with
    | none =>
      simp [inB] at hJ ⊢
      exact hJ _ rfl
    | some i =>
      by_cases c : -n ≤ i ∧ i ≤ n
      · simp [inB, c] at hJ ⊢
        simp [optD]
        exact hJ _ rfl
      · simp [inB, c] at hJ ⊢
        exact hJ _ rfl
  · simp only [kOp_lst, wo_nil, kCons_ap, kPrim_ap, rslv_r, rslv_nil, Option.map, den_all, bitsOf_mapf, kVal_some, kNot_b]
    by_cases c : ∀ o ∈ l, ∃ i, o = some i ∧ (-n ≤ i ∧ i ≤ n ∧ i ≠ 0)
    · have ct : (List.map (fun o => inB o (-n) n && !decide (o = some 0)) l).all id = true := by
        simp only [List.all_map, List.all_eq_true, Function.comp, id]
        intro o ho
        obtain ⟨i, rfl, h1, h2, h3⟩ := c o ho
        simp [inB, h1, h2, h3]
      obtain ⟨ws, rfl, hws⟩ := allS_iff l _ c
      have nd := hnd ws rfl hws
      have nd2 : (ws.map fun w : Int => (w.natAbs : Int)).Nodup := by
        rw [List.Nodup, List.pairwise_map] at nd ⊢
        exact nd.imp fun h e => h (by omega)
      unfold madeWords at h
      rw [allS_some] at h
      simp only at h
      rw [if_pos ⟨hws, nd⟩] at h
      rw [ct, opt_ints]
      simp
      refine w_mapA .int ws (fun w => .int (w.natAbs : Int)) rfl (fun w hw J hJ => ?_) ?_
      · simp [unE]
        exact hJ _ rfl
      · have e : (ws.map fun w : Int => PyData.int (w.natAbs : Int)) = (ws.map fun w : Int => (w.natAbs : Int)).map .int := by rw [List.map_map]; rfl
        rw [e]
        have ls := lenset_ints nd2 (by simpa using hl)
        simp only [kOp_lst, wo_nil, kCons_ap, kPrim_ap, rslv_r, rslv_nil, Option.map]
        rw [ls]
        simp
        simpa [optL] using h
    · have ct : (List.map (fun o => inB o (-n) n && !decide (o = some 0)) l).all id = false := by
        rw [Bool.eq_false_iff]
        intro z
        simp only [List.all_map, List.all_eq_true, Function.comp, id] at z
        refine c fun o ho => ?_
        have zo := z o ho
        cases o with
        | none => simp [inB] at zo
        | some i => simp [inB] at zo; exact ⟨i, rfl, zo.1.1, zo.1.2, zo.2⟩
      rw [ct]
      have hm : madeWords n l = none := by
        unfold madeWords
        cases qs : allS l with
        | none => rfl
        | some ws =>
          have := allS_inv qs
          subst this
          dsimp only
          rw [if_neg]
          rintro ⟨z, _⟩
          refine c fun o ho => ?_
          obtain ⟨w, hw, rfl⟩ := List.mem_map.mp ho
          exact ⟨w, rfl, z w hw⟩
      rw [hm] at h
      simp
      exact h
theorem made_numbers (k : Nat) {cnt : Int} {l : List (Option Int)} (hl : l.length ≤ 4000) (hnd : ∀ ws : List Int, l = ws.map some → (∀ w ∈ ws, 0 ≤ w ∧ w ≤ cnt - 1) → ws.Nodup) (h : q (.val (optL (madeNums cnt l))) .un) : WC (Phi md.tb (k + 3) "made_numbers" [.val (.list (l.map optD)), .val (.int cnt)]) q x := by
  rw [en_made_numbers, wc_run]
  simp [ir_made_numbers]
  refine is_row (k + 1) ?_
  simp [isiB, isiS, tyOf]
  refine w_mapA optD l (fun o => .bool (inB o 0 (cnt - 1))) rfl (fun o ho J hJ => ?_) ?_
  · simp [unE]
    exact is_number_in k (by simp; exact hJ _ rfl)
  · simp only [kOp_lst, wo_nil, kCons_ap, kPrim_ap, rslv_r, rslv_nil, Option.map, den_all, bitsOf_mapf, kVal_some, kNot_b]
    by_cases c : ∀ o ∈ l, ∃ i, o = some i ∧ (0 ≤ i ∧ i ≤ cnt - 1)
    · have ct : (List.map (fun o => inB o 0 (cnt - 1)) l).all id = true := by
        simp only [List.all_map, List.all_eq_true, Function.comp, id]
        intro o ho
        obtain ⟨i, rfl, h1, h2⟩ := c o ho
        simp [inB, h1, h2]
      obtain ⟨ws, rfl, hws⟩ := allS_iff l _ c
      have nd := hnd ws rfl hws
      unfold madeNums at h
      rw [allS_some] at h
      simp only at h
      rw [if_pos ⟨hws, nd⟩] at h
      have ls := lenset_ints nd (by simpa using hl)
      rw [ct, opt_ints]
      simp [ls]
      simpa [optL] using h
    · have ct : (List.map (fun o => inB o 0 (cnt - 1)) l).all id = false := by
        rw [Bool.eq_false_iff]
        intro z
        simp only [List.all_map, List.all_eq_true, Function.comp, id] at z
        refine c fun o ho => ?_
        have zo := z o ho
        cases o with
        | none => simp [inB] at zo
        | some i => simp [inB] at zo; exact ⟨i, rfl, zo.1, zo.2⟩
      rw [ct]
      have hm : madeNums cnt l = none := by
        unfold madeNums
        cases qs : allS l with
        | none => rfl
        | some ws =>
          have := allS_inv qs
          subst this
          dsimp only
          rw [if_neg]
          rintro ⟨z, _⟩
          refine c fun o ho => ?_
          obtain ⟨w, hw, rfl⟩ := List.mem_map.mp ho
          exact ⟨w, rfl, z w hw⟩
      rw [hm] at h
      simp
      exact h
end
end M71
end PyI

namespace PyI
open PySem PySem.Spec PyProof.Rows L2
namespace Tx
open TL
/-- unlike where in bounds -/
def Raw.Good (n cnt : Int) : Raw → Prop
  | .no => True
  | .ors l => l.length ≤ 4000 ∧ ∀ ws : List Int, l = ws.map some → (∀ w ∈ ws, -n ≤ w ∧ w ≤ n ∧ w ≠ 0) → (ws.map Int.natAbs).Nodup
  | .few _ l => l.length ≤ 4000 ∧ ∀ ws : List Int, l = ws.map some → (∀ w ∈ ws, 0 ≤ w ∧ w ≤ cnt - 1) → ws.Nodup
  | .nt _ => True
@[simp] theorem isNone_optL (o : Option (List Int)) : isNone (optL o) = o.isNone := by cases o <;> rfl
@[simp] theorem isNone_optR (o : Option Rl) : isNone (optR o) = o.isNone := by
  cases o with
  | none => rfl
  | some r => cases r <;> rfl
@[simp] theorem optL_some (ws : List Int) : optL (some ws) = .tuple (ws.map .int) := rfl
@[simp] theorem optD_some (i : Int) : optD (some i) = .int i := rfl
@[simp] theorem optD_none : optD none = .none := rfl
@[simp] theorem optL_none : optL none = .none := rfl
end Tx
namespace M71
open Tx TL
section
variable {q : Sl → Sl → Prop} {x : Str → PyData → Sl → Prop}
theorem made_rule (k : Nat) {n cnt : Int} {raw : Raw} (hg : raw.Good n cnt) (h : q (.val (optR (madeRule n raw cnt))) .un) : WC (Phi md.tb (k + 5) "made_rule" [.val (.int n), .val raw.d, .val (.int cnt)]) q x := by
  rw [en_made_rule, wc_run]
  unfold madeRule at h
  cases raw with
  | no =>
    simp [ir_made_rule, Raw.d]
    refine is_row (k + 3) ?_
    simp [isiB, isiS, tyOf]
    by_cases c : 24 ≤ cnt
    · rw [if_pos c] at h; exact h
    · rw [if_neg c] at h; exact h
  | ors l =>
    simp [ir_made_rule, Raw.d]
    refine is_row (k + 3) ?_
    by_cases c : 24 ≤ cnt
    · rw [if_pos c] at h
      simp [isiB, isiS, tyOf, c]
      exact h
    · rw [if_neg c] at h
      simp [isiB, isiS, tyOf, c]
      rw [en_made_either, wc_run]
      simp [ir_made_either]
      refine made_words k hg.1 hg.2 ?_
      cases e : madeWords n l with
      | none =>
        simp only [e] at h
        simp
        exact h
      | some ws =>
        simp only [e] at h
        simp
        exact h
  | few c l =>
    have fo := few_or
    simp [ir_made_rule, Raw.d]
    refine is_row (k + 3) ?_
    by_cases c1 : 24 ≤ cnt
    · rw [if_pos c1] at h
      simp [isiB, isiS, tyOf, c1]
      exact h
    · rw [if_neg c1] at h
      simp [isiB, isiS, tyOf, c1, fo]
      rw [en_made_count, wc_run]
      simp [ir_made_count]
      refine is_number_in (k + 1) ?_
      cases b : inB c 0 24 with
      | false =>
        simp only [b] at h
        simp
        exact h
      | true =>
        simp only [b] at h
        simp
        refine made_numbers k hg.1 hg.2 ?_
        cases c with
        | none => cases b
        | some i =>
          cases e : madeNums cnt l with
          | none =>
            simp only [e] at h
            simp
            exact h
          | some ws =>
            simp only [e] at h
            simp
            exact h
  | nt c =>
    have fo := not_or'
    have fo2 := not_few
    simp [ir_made_rule, Raw.d]
    refine is_row (k + 3) ?_
    by_cases c1 : 24 ≤ cnt
    · rw [if_pos c1] at h
      simp [isiB, isiS, tyOf, c1]
      exact h
    · rw [if_neg c1] at h
      simp [isiB, isiS, tyOf, c1, fo, fo2]
      rw [en_made_not, wc_run]
      simp [ir_made_not]
      refine is_number_in (k + 1) ?_
      cases b : inB c 0 (cnt - 1) with
      | false =>
        simp only [b] at h
        simp
        exact h
      | true =>
        simp only [b] at h
        cases c with
        | none => cases b
        | some i =>
          simp
          exact h
end
end M71
end PyI

namespace PyI
open PySem PySem.Spec PyProof.Rows L2
namespace Tx
open TL
theorem spl_ne (S : List Nat) : ∀ (l : List Nat) (k : Nat) (acc : List Nat), spl S k acc l ≠ []
  | [], k, acc => by rw [spl_nil]; simp
  | c :: r, 0, acc => by
    unfold spl
    split
    · simp
    · exact spl_ne S r 0 _
  | c :: r, k + 1, acc => by
    unfold spl
    exact spl_ne S r k acc
theorem spl_len (S : List Nat) : ∀ (l : List Nat) (k : Nat) (acc : List Nat), (spl S k acc l).length ≤ l.length + 1 ∧ ∀ p ∈ spl S k acc l, p.length ≤ acc.length + l.length
  | [], k, acc => by rw [spl_nil]; simp
  | c :: r, 0, acc => by
    unfold spl
    split
    · obtain ⟨h1, h2⟩ := spl_len S r (S.length - 1) []
      refine ⟨by simp; omega, fun p hp => ?_⟩
      rcases List.mem_cons.mp hp with rfl | hp
      · omega
      · have := h2 p hp
        simp at this ⊢
        omega
    · obtain ⟨h1, h2⟩ := spl_len S r 0 (acc ++ [c])
      refine ⟨by simp; omega, fun p hp => ?_⟩
      have := h2 p hp
      simp at this ⊢
      omega
  | c :: r, k + 1, acc => by
    unfold spl
    obtain ⟨h1, h2⟩ := spl_len S r k acc
    exact ⟨by simp; omega, fun p hp => by have := h2 p hp; simp; omega⟩
theorem split_len (t y : Str) (hy : tl y ≠ []) (hk : y.cps.all (· < 256) = true) : Txt.split t y ≠ [] ∧ (Txt.split t y).length ≤ t.length + 1 ∧ ∀ s ∈ Txt.split t y, s.length ≤ t.length := by
  have e := split_spl t y hy (TL.kind_ok hk)
  refine ⟨fun z => ?_, ?_, fun s hs => ?_⟩
  · rw [z] at e
    exact spl_ne _ _ _ _ e.symm
  · have := (spl_len (tl y) (tl t) 0 []).1
    rw [← e, List.length_map] at this
    rw [len_tl]
    exact this
  · have := (spl_len (tl y) (tl t) 0 []).2 (tl s) (by rw [← e]; exact List.mem_map_of_mem hs)
    rw [len_tl, len_tl]
    simpa using this
theorem split_words (t : Str) : ∃ w r, Txt.split t sp = w :: r ∧ r.length ≤ t.length ∧ ∀ s ∈ w :: r, s.length ≤ t.length := by
  obtain ⟨h1, h2, h3⟩ := split_len t sp (by decide) (by decide +kernel)
  cases e : Txt.split t sp with
  | nil => exact absurd e h1
  | cons w r =>
    rw [e] at h2 h3
    exact ⟨w, r, rfl, by simpa using h2, h3⟩
theorem sorted_nodup {ws : List Int} (h : ws.Nodup) : (isortI ws).Pairwise (· < ·) := by
  have nd : (isortI ws).Nodup := (isort_perm ws).nodup_iff.mpr h
  have s := isort_sorted ws
  exact (s.and nd).imp fun h => by omega
theorem made_ok {n cnt : Int} {raw : Raw} {r : Rl} (h : madeRule n raw cnt = some r) : RlOk n cnt r ∧ cnt < 24 := by
  unfold madeRule at h
  by_cases c : 24 ≤ cnt
  · rw [if_pos c] at h; cases h
  · rw [if_neg c] at h
    refine ⟨?_, by omega⟩
    cases raw with
    | no => cases h
    | ors l =>
      simp only at h
      unfold madeWords at h
      cases e : allS l with
      | none => rw [e] at h; cases h
      | some ws =>
        rw [e] at h
        simp only at h
        split at h
        · rename_i z
          cases h
          have m : Met n ws := ⟨fun w hw => by have := z.1 w hw; omega, z.2⟩
          exact ⟨m.perm (isort_perm _), isort_idem _⟩
        · cases h
    | few c l =>
      simp only at h
      split at h
      · rename_i b
        unfold madeNums at h
        cases c with
        | none => cases b
        | some i =>
          cases e : allS l with
          | none => rw [e] at h; cases h
          | some ws =>
            rw [e] at h
            simp only at h
            split at h
            · rename_i z
              cases h
              simp [inB] at b
              exact ⟨b.1, b.2, sorted_nodup z.2, fun x hx => by have := z.1 x ((isort_perm _).mem_iff.mp hx); omega⟩
            · cases h
      · cases h
    | nt k =>
      simp only at h
      split at h
      · rename_i b
        cases k with
        | none => cases b
        | some i =>
          cases h
          simp [inB] at b
          exact ⟨b.1, by omega⟩
      · cases h
end Tx
namespace M71
open Tx TL
section
variable {q : Sl → Sl → Prop} {x : Str → PyData → Sl → Prop}
@[simp] theorem nmD_f (ns : List Str) : nmD false ns = .list (ns.map .str) := rfl
theorem rule_read (k : Nat) {ns : List Str} {row : Str} {cnt : Nat} (hn : NamesOk ns) (h8 : ns.length ≤ 8) (hr : row.length ≤ 1000000) (hg : (rowRule ns (Txt.split row sp)).Good ns.length cnt) (h : q (.val (optR (ruleRead ns row cnt))) .un) : WC (Phi md.tb (k + 6) "rule_read" [.val (.list (ns.map .str)), .val (.str row), .val (.int cnt)]) q x := by
  rw [en_rule_read, wc_run]
  obtain ⟨w, r, e, l, sz⟩ := split_words row
  unfold ruleRead at h
  have e' : Txt.split row (" " : Str) = w :: r := e
  have sl : (" " : Str).length = 1 := by decide
  simp [ir_rule_read, e', sl]
  refine ⟨by omega, ?_⟩
  refine row_rule (k + 3) (fun s hs => by have := sz s (by simp [hs]); omega) ?_
  rw [e] at hg h
  simp
  refine made_rule k hg ?_
  cases em : madeRule ns.length (rowRule ns (w :: r)) cnt with
  | none =>
    rw [em] at h
    simp
    exact h
  | some rl =>
    rw [em] at h
    obtain ⟨ok, lt⟩ := made_ok em
    simp
    have er : optR (some rl) = rl.d := rfl
    rw [er]
    refine rule_text (t := false) (cnt := cnt) (k + 3) hn h8 (by omega) ok ?_
    simp only at h
    by_cases c : ruleT ns rl = row
    · rw [if_pos c] at h
      simp [c]
      exact h
    · rw [if_neg c] at h
      simp [c]
      exact h
end
end M71
end PyI

namespace PyI
open PySem PySem.Spec PyProof.Rows L2
theorem zip_map {α β : Type} (f : α → PyData) (g : β → PyData) : ∀ (l : List α) (m : List β), zipOf (l.map f) (m.map g) = (l.zip m).map fun p => PyData.tuple [f p.1, g p.2]
  | [], _ => by simp [zipOf]
  | a :: l, [] => by simp [zipOf]
  | a :: l, b :: m => by simp [zipOf, zip_map f g l m]
namespace Tx
open TL
theorem rises_zip : ∀ ns : List Int, risesB ns = (ns.zip ns.tail).all fun p => decide (p.1 < p.2)
  | [] => rfl
  | [_] => rfl
  | a :: b :: r => by
    have := rises_zip (b :: r)
    simp only [List.tail_cons] at this ⊢
    simp only [risesB, this, List.zip_cons_cons, List.all_cons]
def optW : Option Ws → PyData
  | none => .none
  | some w => w.d
@[simp] theorem isNone_optW (o : Option Ws) : isNone (optW o) = o.isNone := by cases o <;> rfl
theorem ddup_aux {α : Type} [DecidableEq α] : ∀ (l acc : List α), (l.foldl (fun a x => if a.contains x then a else a ++ [x]) acc).length ≤ acc.length + l.length ∧
    ((l.foldl (fun a x => if a.contains x then a else a ++ [x]) acc).length = acc.length + l.length ↔ l.Nodup ∧ ∀ x ∈ l, x ∉ acc)
  | [], acc => by simp
  | a :: l, acc => by
    rw [List.foldl_cons]
    by_cases c : a ∈ acc
    · rw [if_pos (by simpa using c)]
      obtain ⟨h1, h2⟩ := ddup_aux l acc
      refine ⟨by rw [List.length_cons]; omega, ⟨fun z => by rw [List.length_cons] at z; omega, fun z => absurd c (z.2 a (by simp))⟩⟩
    · rw [if_neg (by simpa using c)]
      obtain ⟨h1, h2⟩ := ddup_aux l (acc ++ [a])
      simp only [List.length_append, List.length_cons, List.length_nil] at h1 h2 ⊢
      refine ⟨by omega, ?_⟩
      rw [show acc.length + (l.length + 1) = acc.length + (0 + 1) + l.length by omega, h2, List.nodup_cons]
      constructor
      · rintro ⟨n, z⟩
        refine ⟨⟨fun m => by have := z a m; simp at this, n⟩, fun x hx => ?_⟩
        rcases List.mem_cons.mp hx with rfl | hx
        · exact c
        · have := z x hx
          simp at this
          exact this.1
      · rintro ⟨⟨m, n⟩, z⟩
        refine ⟨n, fun x hx => ?_⟩
        simp only [List.mem_append, List.mem_singleton, not_or]
        exact ⟨z x (by simp [hx]), fun e => m (e ▸ hx)⟩
theorem ddup_len {α : Type} [DecidableEq α] (l : List α) : (ddup l).length = l.length ↔ l.Nodup := by
  have := (ddup_aux l []).2
  simp at this
  unfold ddup
  simpa using this
theorem lenset_strs (ns : List Str) (h : ns.length ≤ 4000) : ∃ j : Nat, den .lenset [.list (ns.map .str)] = some (.val (.int j)) ∧ (j = ns.length ↔ ns.Nodup) := by
  cases ns with
  | nil => exact ⟨0, by show dLenSet [.list []] = _; unfold dLenSet; simp [intsOf], by simp⟩
  | cons a l =>
    refine ⟨(ddup (a :: l)).length, ?_, ddup_len _⟩
    show dLenSet [.list ((a :: l).map .str)] = _
    unfold dLenSet
    have e : intsOf ((a :: l).map PyData.str) = none := rfl
    simp only [e, strsOf_map]
    exact if_pos h
end Tx
namespace M71
open Tx TL
section
variable {q : Sl → Sl → Prop} {x : Str → PyData → Sl → Prop}
theorem is_name (k : Nat) {s : Str} (hs : s.length ≤ 16777216) (h : q (.val (.bool (decide (Nm s)))) .un) : WC (Phi md.tb (k + 1) "is_name" [.val (.str s)]) q x := by
  rw [en_is_name, wc_run]
  by_cases c1 : 1 ≤ s.length
  · by_cases c2 : s.length ≤ 8
    · have b1 : (1 : Int) ≤ s.length := by omega
      have b2 : (s.length : Int) ≤ 8 := by omega
      simp [ir_is_name, hs, b1, b2, items_str hs]
      refine w_mapA (fun c => .str (one c)) (tl s) (fun c => .bool (decide (c ∈ ("abcdefghijklmnopqrstuvwxyz" : Str).cps.toList))) rfl (fun c hc J hJ => ?_) ?_
      · simp [unE, one] at hJ ⊢
        exact hJ _ rfl
      · simp only [kOp_lst, wo_nil, kCons_ap, kPrim_ap, rslv_r, rslv_nil, Option.map, den_all, bitsOf_mapf, kVal_some]
        have e : (List.map (fun c => decide (c ∈ ("abcdefghijklmnopqrstuvwxyz" : Str).cps.toList)) (tl s)).all id = decide (Nm s) := by
          rw [Bool.eq_iff_iff]
          constructor
          · intro z
            simp only [List.all_map, List.all_eq_true, Function.comp, id, decide_eq_true_eq, abc_mem] at z
            exact decide_eq_true ⟨c1, c2, z⟩
          · intro z
            have z := of_decide_eq_true z
            simp only [List.all_map, List.all_eq_true, Function.comp, id, decide_eq_true_eq, abc_mem]
            exact z.2.2
        rw [e]
        exact h
    · have b1 : (1 : Int) ≤ s.length := by omega
      have b2 : ¬ (s.length : Int) ≤ 8 := by omega
      have e : decide (Nm s) = false := decide_eq_false fun z => c2 z.2.1
      rw [e] at h
      simp [ir_is_name, hs, b1, b2]
      exact h
  · have b1 : ¬ (1 : Int) ≤ s.length := by omega
    have e : decide (Nm s) = false := decide_eq_false fun z => c1 z.1
    rw [e] at h
    simp [ir_is_name, hs, b1]
    exact h
theorem are_names (k : Nat) {ns : List Str} (hs : ∀ s ∈ ns, s.length ≤ 16777216) (h : q (.val (.bool (decide (ns.length ≤ 8 ∧ NamesOk ns)))) .un) : WC (Phi md.tb (k + 2) "are_names" [.val (.list (ns.map .str))]) q x := by
  rw [en_are_names, wc_run]
  by_cases c1 : ns.length ≤ 8
  · have b1 : (ns.length : Int) ≤ 8 := by omega
    simp [ir_are_names, b1]
    refine w_mapA .str ns (fun s => .bool (decide (Nm s))) rfl (fun s hm J hJ => ?_) ?_
    · simp [unE]
      exact is_name k (hs s hm) (by simp at hJ ⊢; exact hJ _ rfl)
    · simp only [kOp_lst, wo_nil, kCons_ap, kPrim_ap, rslv_r, rslv_nil, Option.map, den_all, bitsOf_mapf, kVal_some]
      by_cases c2 : ∀ s ∈ ns, Nm s
      · have e : (List.map (fun s => decide (Nm s)) ns).all id = true := by
          simp only [List.all_map, List.all_eq_true, Function.comp, id, decide_eq_true_eq]
          exact c2
        rw [e]
        obtain ⟨j, j1, j2⟩ := lenset_strs ns (by omega)
        have ej : decide ((j : Int) = ns.length) = decide (ns.length ≤ 8 ∧ NamesOk ns) := by
          rw [decide_eq_decide]
          constructor
          · intro z
            exact ⟨c1, j2.mp (by omega), c2⟩
          · rintro ⟨_, z, _⟩
            have := j2.mpr z
            omega
        simp [j1]
        rw [ej]
        exact h
      · have e : (List.map (fun s => decide (Nm s)) ns).all id = false := by
          rw [Bool.eq_false_iff]
          intro z
          simp only [List.all_map, List.all_eq_true, Function.comp, id, decide_eq_true_eq] at z
          exact c2 z
        have e2 : decide (ns.length ≤ 8 ∧ NamesOk ns) = false := decide_eq_false fun z => c2 z.2.2
        rw [e2] at h
        rw [e]
        simp
        exact h
  · have b1 : ¬ (ns.length : Int) ≤ 8 := by omega
    have e2 : decide (ns.length ≤ 8 ∧ NamesOk ns) = false := decide_eq_false fun z => c1 z.1
    rw [e2] at h
    simp [ir_are_names, b1]
    exact h
theorem musts_read (k : Nat) {row : Str} {cnt : Int} (hr : row.length ≤ 1000000) (h : q (.val (optL (mustsRead row cnt))) .un) : WC (Phi md.tb (k + 3) "musts_read" [.val (.str row), .val (.int cnt)]) q x := by
  rw [en_musts_read, wc_run]
  obtain ⟨w, r, e, l, sz⟩ := split_words row
  unfold mustsRead at h
  rw [e] at h
  dsimp only at h
  have e' : Txt.split row (" " : Str) = w :: r := e
  have sl : (" " : Str).length = 1 := by decide
  simp [ir_musts_read, e', sl]
  refine ⟨by omega, ?_⟩
  refine w_mapA .str r (fun s => optD (rdNum s)) rfl (fun s hs J hJ => ?_) ?_
  · simp [unE]
    exact number_of (k + 1) (by have := sz s (by simp [hs]); omega) (by simp; exact hJ _ rfl)
  · by_cases c : w = "musts"
    · simp [c]
      have em : r.map (fun s => optD (rdNum s)) = (r.map rdNum).map optD := by simp
      rw [em]
      generalize r.map rdNum = os at h
      refine w_mapA optD os (fun o => .bool (inB o 0 (cnt - 1))) rfl (fun o ho J hJ => ?_) ?_
      · simp [unE]
        exact is_number_in k (by simp; exact hJ _ rfl)
      · simp only [kOp_lst, wo_nil, kCons_ap, kPrim_ap, rslv_r, rslv_nil, Option.map, den_all, bitsOf_mapf, kVal_some, kNot_b]
        by_cases c2 : ∀ o ∈ os, ∃ i, o = some i ∧ (0 ≤ i ∧ i ≤ cnt - 1)
        · have ct : (List.map (fun o => inB o 0 (cnt - 1)) os).all id = true := by
            simp only [List.all_map, List.all_eq_true, Function.comp, id]
            intro o ho
            obtain ⟨i, h0, h1, h2⟩ := c2 o ho
            simp [inB, h0, h1, h2]
          obtain ⟨ns, en, hns⟩ := allS_iff _ _ c2
          rw [ct]
          subst en
          rw [allS_some] at h
          dsimp only at h
          rw [opt_ints]
          simp
          have ez : zipOf (ns.map PyData.int) (ns.map PyData.int).tail = (ns.zip ns.tail).map fun p => .tuple [.int p.1, .int p.2] := by rw [← List.map_tail]; exact zip_map _ _ _ _
          rw [ez]
          refine w_mapA (fun p : Int × Int => .tuple [.int p.1, .int p.2]) (ns.zip ns.tail) (fun p => .bool (decide (p.1 < p.2))) rfl (fun p hp J hJ => ?_) ?_
          · simp [unE]
            exact hJ _ rfl
          · simp only [kOp_lst, wo_nil, kCons_ap, kPrim_ap, rslv_r, rslv_nil, Option.map, den_all, bitsOf_mapf, kVal_some, kNot_b]
            have er : (List.map (fun p : Int × Int => decide (p.1 < p.2)) (ns.zip ns.tail)).all id = risesB ns := by
              rw [rises_zip, List.all_map]
              rfl
            rw [er]
            cases er2 : risesB ns with
            | true =>
              rw [if_pos ⟨c, hns, er2⟩] at h
              simp
              exact h
            | false =>
              rw [if_neg (fun z => by rw [er2] at z; exact absurd z.2.2 (by simp))] at h
              simp
              exact h
        · have ct : (List.map (fun o => inB o 0 (cnt - 1)) os).all id = false := by
            rw [Bool.eq_false_iff]
            intro z
            simp only [List.all_map, List.all_eq_true, Function.comp, id] at z
            refine c2 fun o ho => ?_
            have zo := z o ho
            cases o with
            | none => simp [inB] at zo
            | some i => simp [inB] at zo; exact ⟨i, rfl, zo.1, zo.2⟩
          rw [ct]
          cases qs : allS os with
          | none =>
            rw [qs] at h
            simp
            exact h
          | some ws =>
            have ew := allS_inv qs
            rw [qs] at h
            dsimp only at h
            rw [if_neg] at h
            · simp
              exact h
            · rintro ⟨_, z, _⟩
              refine c2 fun o ho => ?_
              rw [ew] at ho
              obtain ⟨w, hw, rfl⟩ := List.mem_map.mp ho
              exact ⟨w, rfl, z w hw⟩
    · simp [c]
      cases qs : allS (r.map rdNum) with
      | none =>
        rw [qs] at h
        exact h
      | some ws =>
        rw [qs] at h
        dsimp only at h
        rw [if_neg (fun z => c z.1)] at h
        exact h
theorem wish_read (k : Nat) {row : Str} {cnt : Int} (hr : row.length ≤ 1000000) (h : q (.val (optW (wishRead row cnt))) .un) : WC (Phi md.tb (k + 3) "wish_read" [.val (.str row), .val (.int cnt)]) q x := by
  rw [en_wish_read, wc_run]
  obtain ⟨w, r, e, l, sz⟩ := split_words row
  unfold wishRead at h
  rw [e] at h
  have e' : Txt.split row (" " : Str) = w :: r := e
  have sl : (" " : Str).length = 1 := by decide
  simp [ir_wish_read, e', sl]
  refine ⟨by omega, ?_⟩
  refine w_mapA .str r (fun s => optD (rdNum s)) rfl (fun s hs J hJ => ?_) ?_
  · simp [unE]
    exact number_of (k + 1) (by have := sz s (by simp [hs]); omega) (by simp; exact hJ _ rfl)
  · match r, h with
    | [], h => 
      by_cases c : w = "wish"
      · simp [c]
        exact h
      · simp [c]
        exact h
    | [_], h => 
      by_cases c : w = "wish"
      · simp [c]
        exact h
      · simp [c]
        exact h
    | [_, _], h => 
      by_cases c : w = "wish"
      · simp [c]
        exact h
      · simp [c]
        exact h
    | a :: b :: d :: f :: t, h => 
      have e2 : ¬ ((t.length : Int) + 1 + 1 + 1 + 1 = 3) := by omega
      by_cases c : w = "wish"
      · simp [c, e2]
        exact h
      · simp [c]
        exact h
    | [a, b, d], h =>
      by_cases c : w = "wish"
      · dsimp only at h
        rw [if_pos c] at h
        simp [c]
        refine is_number_in k ?_
        unfold mkWish at h
        generalize rdNum a = A at h
        generalize rdNum b = B at h
        generalize rdNum d = D at h
        cases i1 : inB A 0 (cnt - 1) with
        | false =>
          rw [i1] at h
          simp
          exact h
        | true =>
          rw [i1] at h
          simp
          refine is_number_in k ?_
          cases i2 : inB B 1 4 with
          | false =>
            rw [i2] at h
            simp
            exact h
          | true =>
            rw [i2] at h
            simp
            refine is_number_in k ?_
            have i3e : inB D 1 1000000000000000000000000000000 = inB D 1 (10 ^ 30) := rfl
            rw [i3e]
            cases i3 : inB D 1 (10 ^ 30) with
            | false =>
              rw [i3] at h
              simp
              exact h
            | true =>
              rw [i3] at h
              cases A with
              | none => cases i1
              | some A =>
                cases B with
                | none => cases i2
                | some B =>
                  cases D with
                  | none => cases i3
                  | some D =>
                    simp
                    exact h
      · dsimp only at h
        rw [if_neg c] at h
        simp [c]
        exact h
end
end M71
end PyI

namespace PyI
open PySem PySem.Spec PyProof.Rows L2
namespace Tx
open TL
theorem rows_0 (ns : List Str) (rs : List Rl) (ms : List Int) (ws : List Ws) : (rowsT ns rs ms ws)[0]? = some (Txt.join sp ("names" :: ns)) := rfl
theorem rows_r (ns : List Str) {rs : List Rl} (ms : List Int) (ws : List Ws) {i : Nat} {r : Rl} (h : rs[i]? = some r) : (rowsT ns rs ms ws)[1 + i]? = some (ruleT ns r) := by
  have l := (List.getElem?_eq_some_iff.mp h).1
  unfold rowsT
  rw [Nat.add_comm, List.getElem?_cons_succ, List.getElem?_append_left (by simpa using l), List.getElem?_map, h]
  rfl
theorem rows_m (ns : List Str) (rs : List Rl) (ms : List Int) (ws : List Ws) : (rowsT ns rs ms ws)[1 + rs.length]? = some (mustsT ms) := by
  unfold rowsT
  rw [Nat.add_comm, List.getElem?_cons_succ, List.getElem?_append_right (by simp)]
  simp
theorem rows_w (ns : List Str) (rs : List Rl) (ms : List Int) {ws : List Ws} {i : Nat} {w : Ws} (h : ws[i]? = some w) : (rowsT ns rs ms ws)[1 + rs.length + 1 + i]? = some (wishT w) := by
  unfold rowsT
  rw [show 1 + rs.length + 1 + i = (rs.length + (i + 1)) + 1 by omega, List.getElem?_cons_succ, List.getElem?_append_right (by simp)]
  simp [h]
theorem rows_len (ns : List Str) (rs : List Rl) (ms : List Int) (ws : List Ws) : (rowsT ns rs ms ws).length = rs.length + ws.length + 2 := by
  unfold rowsT
  simp
  omega
theorem rule_good {ns : List Str} (hn : NamesOk ns) {cnt : Int} {r : Rl} (h : RlOk ns.length cnt r) (h8 : ns.length ≤ 8) (hc : cnt < 24) : (rowRule ns (ruleW ns r)).Good ns.length cnt := by
  cases r with
  | ors ws =>
    have e : (ws.map (wordT ns)).map (rdWord ns) = ws.map some := by
      rw [List.map_map]
      exact List.map_congr_left fun w hw => word_back hn (h.1.1 w hw).1 (by have := (h.1.1 w hw).2; omega)
    simp only [ruleW, rowRule, if_true, e]
    have := met_len h.1
    refine ⟨by simp; omega, fun vs ev _ => ?_⟩
    have : vs = ws := by
      have := congrArg allS ev
      rw [allS_some, allS_some] at this
      cases this
      rfl
    subst this
    exact h.1.2
  | few c ns' =>
    have e : (ns'.map numT).map rdNum = ns'.map some := nums_back fun x hx => by have := h.2.2.2 x hx; omega
    simp only [ruleW, rowRule, if_neg few_or, List.map_cons, e, if_true]
    have hl : ns'.length ≤ 24 := by
      have := nums_len (cnt := 24) (ns := ns') ⟨h.2.2.1, fun x hx => by have := h.2.2.2 x hx; omega⟩
      exact this
    refine ⟨by simp; omega, fun vs ev _ => ?_⟩
    have : vs = ns' := by
      have := congrArg allS ev
      rw [allS_some, allS_some] at this
      cases this
      rfl
    subst this
    exact nodup_lt h.2.2.1
  | nt k =>
    simp only [ruleW, rowRule, if_neg not_or', List.map_cons, List.map_nil, if_neg not_few]
    rw [if_pos ⟨trivial, trivial⟩]
    trivial
theorem head_ne (ns : List Str) (r : Rl) : ∃ w l, ruleW ns r = w :: l ∧ w ≠ "musts" := by
  cases r with
  | ors ws => exact ⟨_, _, rfl, by decide +kernel⟩
  | few c l => exact ⟨_, _, rfl, by decide +kernel⟩
  | nt k => exact ⟨_, _, rfl, by decide +kernel⟩
section
variable {ns : List Str} {rs : List Rl} {ms : List Int} {ws : List Ws} (H : HOk ns rs ms ws)
include H
theorem HOk.no_lf : ∀ p ∈ rowsT ns rs ms ws, 10 ∉ tl p := by
  intro p hp
  simp only [rowsT, List.mem_cons, List.mem_append, List.mem_map] at hp
  rcases hp with rfl | ⟨r, hr, rfl⟩ | rfl | ⟨w, hw, rfl⟩
  · refine row_free fun p hp => ?_
    rcases List.mem_cons.mp hp with rfl | hp
    · decide
    · exact (H.nm.2 p hp).free (by decide)
  · rw [ruleT_W]
    exact row_free fun p hp => (ruleW_free H.nm (H.all.at hr H.r24) p hp).2
  · refine row_free fun p hp => ?_
    rcases List.mem_cons.mp hp with rfl | hp
    · decide
    · exact nums_free (fun x hx => (H.mu.2 x hx).1) (by decide) p hp
  · obtain ⟨h1, h2, h3, h4, h5, h6⟩ := H.wok w hw
    refine row_free fun p hp => ?_
    simp at hp
    rcases hp with rfl | rfl | rfl | rfl
    · decide
    · exact numT_free h1 (by decide)
    · exact numT_free (by omega) (by decide)
    · exact numT_free (by omega) (by decide)
theorem HOk.split_text : Txt.split (Txt.join lf (rowsT ns rs ms ws)) ("\n" : Str) = rowsT ns rs ms ws := split_lf (by simp [rowsT]) H.no_lf
theorem HOk.split_names : Txt.split (Txt.join sp (("names" : Str) :: ns)) (" " : Str) = ("names" : Str) :: ns := split_sp (by simp) fun p hp => by
  rcases List.mem_cons.mp hp with rfl | hp
  · exact names_free
  · exact (H.nm.2 p hp).free (by decide)
theorem HOk.split_musts : Txt.split (mustsT ms) (" " : Str) = ("musts" : Str) :: ms.map numT := split_sp (by simp) fun p hp => by
  rcases List.mem_cons.mp hp with rfl | hp
  · exact musts_free
  · exact nums_free (fun x hx => (H.mu.2 x hx).1) (by decide) p hp
theorem HOk.text_len : (Txt.join lf (rowsT ns rs ms ws)).length ≤ 40000 := by
  obtain ⟨h1, h2⟩ := H.rows_size
  exact Nat.le_trans (join_len h1 h2) (by decide)
end
end Tx
namespace M71
open Tx TL
section
variable {q : Sl → Sl → Prop} {x : Str → PyData → Sl → Prop}
@[simp] theorem isNone_rd (r : Rl) : isNone r.d = false := by cases r <;> rfl
@[simp] theorem optR_some (r : Rl) : optR (some r) = r.d := rfl
@[simp] theorem noL_rd (r : Rl) : noL r.d = true := by
  cases r with
  | ors ws => simp [Rl.d, noLs_map]
  | few c ns => simp [Rl.d, noLs_map]
  | nt k => simp [Rl.d]
theorem need_row (k : Nat) {d : PyData} {i : Int} (hd : isNone d = false) (h : q (.val d) .un) : WC (Phi md.tb (k + 1) "need_row" [.val d, .val (.int i)]) q x := by
  rw [en_need_row, wc_run]
  simp [ir_need_row, hd]
  exact h
theorem read_house (k : Nat) {ns : List Str} {rs : List Rl} {ms : List Int} {ws : List Ws} (H : HOk ns rs ms ws) (h : q (.tup [.lst (ns.map .str), .tup [.val (.int ns.length), .lst (rs.map Rl.d), .val (.tuple (ms.map .int)), .lst (ws.map Ws.d)]]) .un) :
    WC (Phi md.tb (k + 7) "read_house" [.val (.str (Txt.join lf (rowsT ns rs ms ws)))]) q x := by
  rw [en_read_house, wc_run]
  have st := H.split_text
  have tn := H.text_len
  obtain ⟨rz1, rz2⟩ := H.rows_size
  have r0 := rows_0 ns rs ms ws
  have rm := rows_m ns rs ms ws
  have rl := rows_len ns rs ms ws
  have rr : ∀ i r, rs[i]? = some r → (rowsT ns rs ms ws)[1 + i]? = some (ruleT ns r) := fun i r => rows_r ns ms ws
  have rw' : ∀ i w, ws[i]? = some w → (rowsT ns rs ms ws)[1 + rs.length + 1 + i]? = some (wishT w) := fun i w => rows_w ns rs ms
  generalize rowsT ns rs ms ws = R at *
  have s1 : (" " : Str).length = 1 := by decide
  have s2 : ("\n" : Str).length = 1 := by decide
  have sz : ∀ (j : Nat) p, R[j]? = some p → p.length ≤ 900 := fun j p hp => rz2 p (List.mem_of_getElem? hp)
  have n0 := sz _ _ r0
  have m0 := sz _ _ rm
  have sn := H.split_names
  simp [ir_read_house, s2, st]
  refine ⟨by omega, ?_⟩
  simp [r0, s1, sn]
  refine ⟨by omega, ?_⟩
  refine are_names (k + 4) (fun s hs => by have := (H.nm.2 s hs).2.1; omega) ?_
  rw [decide_eq_true (show ns.length ≤ 8 ∧ NamesOk ns from ⟨H.n8, H.nm⟩)]
  simp
  refine w_wh (fun n Γ => ∃ i j : Nat, j = 1 + i ∧ n = rs.length - i ∧ i ≤ rs.length ∧ Γ = [.val (.str (Txt.join lf R)), .lst (R.map .str), .lst (ns.map .str), .lst ((rs.take i).map Rl.d), .val (.int (j : Int)), .un, .un, .un]) ?_ rs.length _ ⟨0, 1, rfl, by omega, by omega, rfl⟩
  rintro n J hJ Γ ⟨i, j, ej, rfl, hi, rfl⟩
  by_cases c : i < rs.length
  · obtain ⟨r, hr⟩ : ∃ r, rs[i]? = some r := ⟨rs[i], List.getElem?_eq_getElem c⟩
    have ro := H.all i r hr
    have rj := rr i r hr
    rw [← ej] at rj
    have lt : (j : Int) < R.length := by omega
    obtain ⟨w, l, ew, wm⟩ := head_ne ns r
    have sr : Txt.split (ruleT ns r) (" " : Str) = w :: l := by
      rw [ruleT_W, ← ew]
      exact split_sp (ruleW_ne ns r) fun p hp => (ruleW_free H.nm ro p hp).1
    have rn := sz _ _ rj
    have mi : min i rs.length = i := by omega
    have lc : ((rs.take i).map Rl.d).length = i := by simp; omega
    have i24 : i < 24 := by have := H.r24; omega
    have gd : (rowRule ns (Txt.split (ruleT ns r) sp)).Good ns.length i := by
      rw [ruleT_W, split_sp (ruleW_ne ns r) fun p hp => (ruleW_free H.nm ro p hp).1]
      exact rule_good H.nm ro H.n8 (by omega)
    have back : ruleRead ns (ruleT ns r) i = some r := rule_back H.nm ro (by omega) (by omega)
    simp [lt, atI_n, rj, s1, sr, wm, mi]
    refine ⟨by omega, ?_⟩
    refine rule_read k H.nm H.n8 (by omega) gd ?_
    rw [back]
    simp
    refine need_row (k + 5) (by simp) ?_
    simp [mi]
    rw [if_pos (by omega)]
    refine hJ (rs.length - (i + 1)) _ (by omega) ⟨i + 1, j + 1, by omega, rfl, by omega, ?_⟩
    rw [take_snoc hr]
    simp
  · have ei : i = rs.length := by omega
    subst ei
    rw [← ej] at rm
    have lt : (j : Int) < R.length := by omega
    have jne : ¬ (j : Int) = R.length := by omega
    have sm := H.split_musts
    have mb : mustsRead (mustsT ms) (rs.length : Int) = some ms := musts_back H.mu (by have := H.r24; omega)
    simp [lt, atI_n, rm, s1, sm]
    refine ⟨by omega, ?_⟩
    simp [jne, atI_n, rm]
    refine musts_read (k + 3) (by omega) ?_
    rw [mb]
    simp
    refine need_row (k + 5) rfl ?_
    simp
    rw [if_pos (by omega)]
    simp
    refine w_for (fun i Γ => ∃ z, Γ = [.val (.str (Txt.join lf R)), .lst (R.map .str), .lst (ns.map .str), .lst (rs.map Rl.d), .val (.int (j : Int)), .val (.tuple (ms.map .int)), .lst ((ws.take i).map Ws.d), z]) ⟨_, rfl⟩ ?_ ?_
    · rintro J2 hJ2 i d Γ hd ⟨z, rfl⟩
      obtain ⟨hi2, rfl⟩ := rng_get hd
      have iw : i < ws.length := by omega
      obtain ⟨w, hw⟩ : ∃ w, ws[i]? = some w := ⟨ws[i], List.getElem?_eq_getElem iw⟩
      have rj := rw' i w hw
      have w12 := H.w12
      have mi : min i ws.length = i := by omega
      have n12 : ¬ (i : Int) = 12 := by omega
      have ea : (j : Int) + 1 + i = ((1 + rs.length + 1 + i : Nat) : Int) := by omega
      have wb : wishRead (wishT w) (rs.length : Int) = some w := wish_back (H.wok w (List.mem_of_getElem? hw)) (by have := H.r24; omega)
      have wn := sz _ _ rj
      simp [mi, n12]
      rw [ea, atI_n, List.getElem?_map, rj]
      simp
      refine wish_read (k + 3) (by omega) ?_
      rw [wb]
      simp
      refine need_row (k + 5) rfl ?_
      simp [mi]
      rw [if_pos (by omega)]
      exact hJ2 _ _ ⟨_, by rw [take_snoc hw]; simp [optW]; rfl⟩
    · rintro Γ ⟨z, rfl⟩
      rw [rng_len]
      have e : (R.length - ((j : Int) + 1)).toNat = ws.length := by omega
      rw [e, List.take_length]
      simp [mvs]
      exact h
end
end M71
end PyI

namespace PyI
open PySem PySem.Spec PyProof.Rows L2
/-! data that may be compared with itself -/
structure OkD (n : Nat) (d : PyData) : Prop where
  lay : d.canLay0 = true
  dep : d.depth ≤ n
  refl : d.eqv d = true
theorem okD_none : OkD 0 .none := ⟨rfl, by simp [PyData.depth], by simp [PyData.eqv]⟩
theorem okD_int (i : Int) : OkD 0 (.int i) := ⟨rfl, by simp [PyData.depth], by simp [PyData.eqv]⟩
theorem okD_str {s : Str} (h : PyData.strOk s = true) : OkD 0 (.str s) := ⟨by simpa [PyData.canLay0] using h, by simp [PyData.depth], by simp [PyData.eqv]⟩
theorem okD_all {n : Nat} : ∀ {ds : List PyData}, (∀ d ∈ ds, OkD n d) → PyData.canLayAll0 ds = true ∧ PyData.depthAll ds ≤ n ∧ PyData.eqvAll ds ds = true
  | [], _ => ⟨by simp [PyData.canLayAll0], by simp [PyData.depthAll], by simp [PyData.eqvAll]⟩
  | d :: ds, h => by
    obtain ⟨h1, h2, h3⟩ := okD_all fun x hx => h x (List.mem_cons_of_mem _ hx)
    obtain ⟨a, b, c⟩ := h d (by simp)
    refine ⟨by simp [PyData.canLayAll0, a, h1], ?_, by simp [PyData.eqvAll, c, h3]⟩
    simp only [PyData.depthAll]
    exact Nat.max_le.mpr ⟨b, h2⟩
theorem okD_list {n : Nat} {ds : List PyData} (h : ∀ d ∈ ds, OkD n d) : OkD (n + 1) (.list ds) := by
  obtain ⟨h1, h2, h3⟩ := okD_all h
  exact ⟨by simpa [PyData.canLay0] using h1, by simp [PyData.depth]; omega, by simpa [PyData.eqv] using h3⟩
theorem okD_tup {n : Nat} {ds : List PyData} (h : ∀ d ∈ ds, OkD n d) : OkD (n + 1) (.tuple ds) := by
  obtain ⟨h1, h2, h3⟩ := okD_all h
  exact ⟨by simpa [PyData.canLay0] using h1, by simp [PyData.depth]; omega, by simpa [PyData.eqv] using h3⟩
theorem OkD.mono {n m : Nat} {d : PyData} (h : OkD n d) (l : n ≤ m) : OkD m d := ⟨h.lay, Nat.le_trans h.dep l, h.refl⟩
theorem OkD.eq {n : Nat} {d : PyData} (h : OkD n d) (l : n ≤ 64) : eqD d d = some true := by
  have s : SeqAt.shaped d = true := by
    unfold SeqAt.shaped
    rw [h.lay]
    simp only [Bool.true_and, decide_eq_true_eq]
    exact Nat.le_trans h.dep l
  unfold eqD
  rw [s, if_pos (by simp), h.refl]
theorem OkD.den_ne {n : Nat} {d : PyData} (h : OkD n d) (l : n ≤ 64) : den .ne [d, d] = some (.val (.bool false)) := by
  show (eqD d d).map (fun k => vB !k) = _
  rw [h.eq l]
  rfl
end PyI

namespace PyI
open PySem PySem.Spec PyProof.Rows L2
namespace Tx
open TL
theorem nm_ok {s : Str} (h : Nm s) : OkD 0 (.str s) := okD_str (by
  show s.cps.all (· < 0x110000) = true
  rw [← Array.all_toList, List.all_eq_true]
  intro c hc
  have := h.2.2 c hc
  simp
  omega)
theorem rl_ok (r : Rl) : OkD 2 r.d := by
  have si : ∀ ns : List Int, OkD 1 (.tuple (ns.map .int)) := fun ns => okD_tup fun d hd => by
    obtain ⟨i, _, rfl⟩ := List.mem_map.mp hd
    exact okD_int i
  have so : ∀ s : Str, s = "or" ∨ s = "few" ∨ s = "not" → OkD 1 (.str s) := fun s hs => by
    rcases hs with rfl | rfl | rfl <;> exact (okD_str (by decide +kernel)).mono (by decide)
  cases r with
  | ors ws =>
    refine okD_tup fun d hd => ?_
    simp at hd
    rcases hd with rfl | rfl
    · exact so _ (.inl rfl)
    · exact si ws
  | few c ns =>
    refine okD_tup fun d hd => ?_
    simp at hd
    rcases hd with rfl | rfl | rfl
    · exact so _ (.inr (.inl rfl))
    · exact (okD_int c).mono (by decide)
    · exact si ns
  | nt k =>
    refine okD_tup fun d hd => ?_
    simp at hd
    rcases hd with rfl | rfl
    · exact so _ (.inr (.inr rfl))
    · exact (okD_int k).mono (by decide)
theorem ws_ok (w : Ws) : OkD 1 w.d := okD_tup fun d hd => by
  simp at hd
  rcases hd with rfl | rfl | rfl <;> exact okD_int _
theorem hD_ok (ns : List Str) (rs : List Rl) (ms : List Int) (ws : List Ws) : OkD 4 (hD ns rs ms ws) := okD_tup fun d hd => by
  simp at hd
  rcases hd with rfl | rfl | rfl | rfl
  · exact (okD_int _).mono (by decide)
  · exact okD_list fun d hd => by
      obtain ⟨r, _, rfl⟩ := List.mem_map.mp hd
      exact rl_ok r
  · exact (okD_tup (n := 0) fun d hd => by
      obtain ⟨r, _, rfl⟩ := List.mem_map.mp hd
      exact okD_int r).mono (by decide)
  · exact (okD_list (n := 1) fun d hd => by
      obtain ⟨r, _, rfl⟩ := List.mem_map.mp hd
      exact ws_ok r).mono (by decide)
theorem nms_ok {ns : List Str} (h : NamesOk ns) : OkD 1 (.list (ns.map .str)) := okD_list fun d hd => by
  obtain ⟨s, hs, rfl⟩ := List.mem_map.mp hd
  exact nm_ok (h.2 s hs)
@[simp] theorem isi_tt (ds : List PyData) : isiB (.tuple ds) "tuple" = true := rfl
@[simp] theorem isi_ll (ds : List PyData) : isiB (.list ds) "list" = true := rfl
@[simp] theorem isi_rd (r : Rl) : isiB r.d "tuple" = true := by cases r <;> rfl
@[simp] theorem isi_wd (r : Ws) : isiB r.d "tuple" = true := rfl
end Tx
@[simp] theorem fz_tup (ss : List Sl) : (Sl.tup ss).fz = (Sl.fzs ss).map PyData.tuple := by simp only [Sl.fz]
@[simp] theorem fzs_nil : Sl.fzs [] = some [] := by simp only [Sl.fzs]
@[simp] theorem fzs_cons (s : Sl) (ss : List Sl) : Sl.fzs (s :: ss) = match s.fz, Sl.fzs ss with
    | some d, some ds => some (d :: ds)
    | _, _ => none := by
  simp only [Sl.fzs] <;> (cases s.fz <;> cases Sl.fzs ss <;> rfl)
namespace M71
open Tx TL
section
variable {q : Sl → Sl → Prop} {x : Str → PyData → Sl → Prop}
theorem law_same (k : Nat) {ns : List Str} {rs : List Rl} {ms : List Int} {ws : List Ws} (H : HOk ns rs ms ws) (h : q (.val (.bool true)) .un) : WC (Phi md.tb (k + 1) "_law_same" [.val (.tuple [.list (ns.map .str), hD ns rs ms ws]), .val (.list (ns.map .str)), .val (hD ns rs ms ws)]) q x := by
  rw [en__law_same, wc_run]
  have o : OkD 5 (.tuple [.list (ns.map .str), hD ns rs ms ws]) := okD_tup fun d hd => by
    simp at hd
    rcases hd with rfl | rfl
    · exact (nms_ok H.nm).mono (by decide)
    · exact hD_ok _ _ _ _
  have h24 := H.r24
  have h12 := H.w12
  simp [ir__law_same, o.den_ne (by decide)]
  simp [hD]
  refine ⟨by omega, ?_⟩
  have e : rs.map Rl.d ++ ws.map Ws.d = (rs.map Sum.inl ++ ws.map Sum.inr : List (Rl ⊕ Ws)).map (fun y => match y with | .inl r => r.d | .inr w => w.d) := by
    rw [List.map_append, List.map_map, List.map_map]
    rfl
  rw [e]
  refine w_mapA _ _ (fun _ => .bool true) rfl (fun y hy J hJ => ?_) ?_
  · cases y with
    | inl r => simp [unE]; exact hJ _ rfl
    | inr w => simp [unE]; exact hJ _ rfl
  · simp only [kOp_lst, wo_nil, kCons_ap, kPrim_ap, rslv_r, rslv_nil, Option.map, den_all, bitsOf_mapf, kVal_some]
    have et : (List.map (fun _ => true) (rs.map Sum.inl ++ ws.map Sum.inr : List (Rl ⊕ Ws))).all id = true := by simp
    rw [et]
    exact h
theorem row_of (k : Nat) {cell : Int} (h : ∀ ns : List Int, ns.length ≤ 60 → q (.val (.list (ns.map .int))) .un) : WC (Phi md.tb (k + 1) "_law_row_of" [.val (.int cell)]) q x := by
  rw [en__law_row_of, wc_run]
  have p1 : ∀ x : Int, -18446744073709551616 < x % 2147483647 ∧ x % 2147483647 < 18446744073709551616 := fun x => by
    have h1 := Int.emod_nonneg x (by decide : (2147483647 : Int) ≠ 0)
    have h2 := Int.emod_lt_of_pos x (by decide : (0 : Int) < 2147483647)
    omega
  by_cases c : (1000000000000000000 : Int) ≤ cell.natAbs
  · simp [ir__law_row_of, c]
    refine w_for (fun i Γ => ∃ (ns : List Int) (left : Int) (z w : Sl), Γ = [.val (.int cell), .lst (ns.map .int), .val (.int left), z, w] ∧ ns.length ≤ i) ⟨[], _, _, _, rfl, by simp⟩ ?_ ?_
    · rintro J hJ i d Γ hd ⟨ns, left, z, w, rfl, l⟩
      obtain ⟨hi, rfl⟩ := rng_get hd
      by_cases c2 : 0 < left
      · simp [c2]
        rw [if_pos (by omega)]
        simp
        exact hJ _ _ ⟨ns ++ [left % 1000000], _, _, _, by simp; exact ⟨rfl, rfl, rfl⟩, by simp; omega⟩
      · simp [c2]
        exact hJ _ _ ⟨ns, _, _, _, rfl, by omega⟩
    · rintro Γ ⟨ns, left, z, w, rfl, l⟩
      rw [rng_len] at l
      simp
      exact h ns l
  · simp [ir__law_row_of, c]
    refine w_for (fun i Γ => ∃ (ns : List Int) (z w : Sl), Γ = [.val (.int cell), .lst (ns.map .int), .val (.int (cell.natAbs : Int)), z, w] ∧ ns.length ≤ i) ⟨[], _, _, rfl, by simp⟩ ?_ ?_
    · rintro J hJ i d Γ hd ⟨ns, z, w, rfl, l⟩
      obtain ⟨hi, rfl⟩ := rng_get hd
      simp [p1]
      rw [if_pos (by omega)]
      simp
      exact hJ _ _ ⟨ns ++ [_], _, _, by simp; exact ⟨rfl, rfl, rfl⟩, by simp; omega⟩
    · rintro Γ ⟨ns, z, w, rfl, l⟩
      rw [rng_len] at l
      simp
      exact h ns (by omega)
theorem cut_ints (ns : List Int) (lo hi : Option Int) : ∃ ms : List Int, cutD (ns.map PyData.int) lo hi = ms.map PyData.int ∧ ms.length ≤ ns.length := by
  unfold cutD
  rw [← List.map_drop, ← List.map_take]
  exact ⟨_, rfl, by simp; omega⟩
theorem pack (k : Nat) {xs : List Int} {many : Nat} (hx : xs.length ≤ 63) (hm : 0 < many) (hm2 : many ≤ 100000) (h : ∀ f, f ≠ [] → q (pk f 0) .un) : WC (Phi md.tb (k + 2) "_law_pack" [.val (.list (xs.map .int)), .val (.int many)]) q x := by
  rw [en__law_pack, wc_run]
  obtain ⟨ms, em, lm⟩ := cut_ints xs none (some 63)
  simp [ir__law_pack, em]
  refine w_for (fun i Γ => ∃ (ns : List Int) (z w v : Sl), Γ = [.val (.list (xs.map .int)), .val (.int many), .lst (ns.map .int), z, w, v] ∧ ns.length ≤ 60 * i) ⟨[], _, _, _, rfl, by simp⟩ ?_ ?_
  · rintro J hJ i d Γ hd ⟨ns, z, w, v, rfl, l⟩
    have hi : i < ms.length := by simpa using (List.getElem?_eq_some_iff.mp hd).1
    obtain ⟨m, _, rfl⟩ := map_get hd
    simp
    refine row_of k fun ns2 l2 => ?_
    simp
    rw [if_pos (by omega)]
    exact hJ _ _ ⟨ns ++ ns2, _, _, _, by simp; exact ⟨rfl, rfl, rfl⟩, by simp; omega⟩
  · rintro Γ ⟨ns, z, w, v, rfl, l⟩
    rw [List.length_map] at l
    have m0 := Int.emod_nonneg (7919 + 40693 * ns.sum) (by decide : (2147483629 : Int) ≠ 0)
    have m1 := Int.emod_lt_of_pos (7919 + 40693 * ns.sum) (by decide : (0 : Int) < 2147483629)
    simp
    rw [if_pos (by omega)]
    simp
    refine w_for (fun i Γ => ∃ (ns2 : List Int) (m : Int) (z v : Sl), Γ = [.val (.list (xs.map .int)), .val (.int many), .lst (ns2.map .int), z, .val (.int m), v] ∧ ns2.length = ns.length + i ∧ 0 ≤ m ∧ m < 2147483629) ⟨ns, _, _, _, rfl, by simp, m0, m1⟩ ?_ ?_
    · rintro J hJ i d Γ hd ⟨ns2, m, z, v, rfl, l2, m2, m3⟩
      obtain ⟨hi, rfl⟩ := rng_get hd
      have b : -18446744073709551616 < m ∧ m < 18446744073709551616 := by omega
      simp [b]
      rw [if_pos (by omega)]
      simp
      exact hJ _ _ ⟨ns2 ++ [_], _, _, _, by simp; exact ⟨rfl, rfl, rfl, rfl⟩, by simp; omega, Int.emod_nonneg _ (by decide), Int.emod_lt_of_pos _ (by decide)⟩
    · rintro Γ ⟨ns2, m, z, v, rfl, l2, m2, m3⟩
      rw [rng_len] at l2
      simp
      exact h ns2 (fun e => by rw [e] at l2; simp at l2; omega)
theorem law (k : Nat) {xs : List Int} (hx : xs.length ≤ 63) (h : q (.val (.bool true)) .un) : WC (Phi md.tb (k + 9) "law" [.val (.list (xs.map .int))]) q x := by
  rw [en_law, wc_run]
  simp [ir_law]
  refine pack (k + 6) (many := 600) hx (by decide) (by decide) fun f hf => ?_
  simp
  refine house hf (k + 4) fun n rs ms ws a1 hn h24 h0 ao mo l12 wo => ?_
  -- behind the rule that is put in
  have rest : ∀ (rs2 : List Rl) (a2 : Int), rs2.length ≤ 24 → AllOk n rs2 → NumsOk rs2.length ms → (∀ w ∈ ws, WsOk rs2.length w) → WS false (Phi md.tb (k + 8)) (.seq (.set 3 (.callIO "_law_names" 1 [(.prim .ix [(.pl 2), (.ex (.c (.int (0))))])])) (.seq (.set 4 (.prim .tup [(.ex (.prim .ix [(.pl 2), (.ex (.c (.int (0))))])), (.ex (.prim .listOf [(.ex (.prim .ix [(.pl 2), (.ex (.c (.int (1))))]))])), (.ex (.prim .ix [(.pl 2), (.ex (.c (.int (2))))])), (.ex (.prim .listOf [(.ex (.prim .ix [(.pl 2), (.ex (.c (.int (3))))]))]))])) (.seq (.set 5 (.meth .join (.ex (.c (.str "\n"))) [(.call "_law_written" [(.v 3), (.v 2)])])) (.seq (.forS (.rng [(.c (.int (2)))]) (.one 6) (.seq (.set 7 (.prim .ix [(.ex (.prim .lst [(.ex (.prim .listOf [(.pl 3)])), (.ex (.prim .tupleOf [(.pl 3)]))])), (.pl 6)])) (.seq (.ite (.or (.prim .ne [(.ex (.call "house_text" [(.v 7), (.v 4)])), (.pl 5)]) (.or (.prim .ne [(.ex (.prim .listOf [(.pl 7)])), (.pl 3)]) (.prim .ne [(.pl 4), (.pl 2)]))) (.seq (.ret (.c (.bool false))) .next)
  .next) (.seq (.set 8 (.call "read_house" [(.v 5)])) (.seq (.ite (.not (.callK "_law_same" [8, 3, 2])) (.seq (.ret (.c (.bool false))) .next)
  .next) (.seq (.mutP .append 8 [0] (.con (.str "z"))) (.seq (.mutP .clear 8 [1, 1] .nil) (.seq (.mutP .append 8 [3, 1] .unit) .next)))))))) (.seq (.ret (.c (.bool true))) .next))))) [.val (.list (xs.map .int)), pk f a2, .val (.tuple [.int n, .list (rs2.map Rl.d), .tuple (ms.map .int), .list (ws.map Ws.d)]), .un, .un, .un, .un, .un, .un] (kDef false q x) := fun rs2 a2 h24 ao mo wo => by
    simp
    refine names hf (k + 6) hn fun ns a3 ln no => ?_
    subst ln
    have H : HOk ns rs2 ms ws := ⟨no, hn, h24, ao, mo, l12, wo⟩
    obtain ⟨rz1, rz2⟩ := H.rows_size
    have j5 : ((rowsT ns rs2 ms ws).map (·.length)).sum + (rowsT ns rs2 ms ws).length * lf.length ≤ 16777216 := Nat.le_trans (join_size rz1 rz2) (by decide)
    simp
    refine law_written (k + 6) H ?_
    simp
    refine ⟨j5, ?_⟩
    refine w_for (fun i Γ => ∃ (z w v : Sl), Γ = [.val (.list (xs.map .int)), pk f a3, .val (hD ns rs2 ms ws), .val (.list (ns.map .str)), .val (hD ns rs2 ms ws), .val (.str (Txt.join lf (rowsT ns rs2 ms ws))), z, w, v]) ⟨_, _, _, rfl⟩ ?_ ?_
    · rintro J hJ i d Γ hd ⟨z, w, v, rfl⟩
      obtain ⟨hi, rfl⟩ := rng_get hd
      have turn : ∃ t, atI [.list (ns.map .str), .tuple (ns.map PyData.str)] (0 + (i : Int)) = some (nmD t ns) := by
        have c : i = 0 ∨ i = 1 := by omega
        rcases c with rfl | rfl
        · exact ⟨false, rfl⟩
        · exact ⟨true, rfl⟩
      obtain ⟨t, et⟩ := turn
      simp only [Int.zero_add] at et
      simp [et]
      refine house_text (k + 5) H ?_
      have ne1 := (nms_ok no).den_ne (by decide)
      have ne2 := (hD_ok ns rs2 ms ws).den_ne (by decide)
      simp [ne1, ne2]
      refine read_house (k + 1) H ?_
      have h24' := H.r24
      have h8 := H.n8
      have h12 := H.w12
      simp [fzAll]
      refine law_same (k + 7) H ?_
      have b8 : ns.length < 16777216 := by omega
      have b12 : ws.length < 16777216 := by omega
      simp [plainD, upAt, SA.ds, b8, b12]
      exact hJ _ _ ⟨_, _, _, rfl⟩
    · rintro Γ ⟨z, w, v, rfl⟩
      simp
      exact h
  have r24 : ∀ rs : List Rl, rs.length ≤ 24 → (rs.map Rl.d).length = rs.length := fun rs _ => by simp
  by_cases c : rs.length < 24
  · have ci : (rs.length : Int) < 24 := by omega
    simp [-ws_seq]
    rw [ws_seq]
    simp [ci]
    refine take hf (k + 7) (by omega) fun v a2 v0 v1 => ?_
    simp [-ws_seq]
    refine ⟨by omega, ?_⟩
    have e : rs.map Rl.d ++ [.tuple [.str "few", .int v, .tuple []]] = (rs ++ [Rl.few v []]).map Rl.d := by simp [Rl.d]
    rw [e]
    refine rest (rs ++ [Rl.few v []]) _ (by simp; omega) (ao.snoc ⟨v0, by omega, .nil, by simp⟩) ⟨mo.1, fun y hy => ?_⟩ fun w hw => ?_
    · have := mo.2 y hy
      simp
      omega
    · obtain ⟨h1, h2, h3⟩ := wo w hw
      exact ⟨h1, by simp; omega, h3⟩
  · have ci : ¬ (rs.length : Int) < 24 := by omega
    simp [-ws_seq]
    rw [ws_seq]
    simp [ci, -ws_seq]
    exact rest rs _ h24 ao mo wo
end
theorem plain_law : Law md 40 63 "law" := fun ns hl _ => by
  have t : TC (Phi md.tb (31 + 9) "law" [.val (.list (ns.map .int))]) (fun s _ => s = .val (.bool true)) := law 31 hl rfl
  show ∃ b, Phi md.tb (31 + 9) "law" [.val (.list (ns.map PyData.int))] = .ok (.val (.bool true)) b
  cases e : Phi md.tb (31 + 9) "law" [.val (.list (ns.map PyData.int))] with
  | ok s b =>
    rw [e] at t
    have t : s = .val (.bool true) := t
    exact ⟨b, by rw [t]⟩
  | ex c d b => rw [e] at t; exact t.elim
  | no => rw [e] at t; exact t.elim
end M71
end PyI

namespace PyI
open PySem PySem.Spec PyProof.Rows L2
namespace M71
set_option maxHeartbeats 0
abbrev R : PySem.W.OpenRow := PySem.W.OpenLaw.row PySem.Challenge.rw_wishdues_k71_houses_written_and_read
abbrev hk : PySem.W.Hook := He.hookD 4 md.fa md.fn
def ob (s : PySem.W.SharedT) : He.AlD := He.obsDG 4 md.fa md.fn (HandSHeadRun.getT s)
theorem ob_eq (s : PySem.W.SharedT) : ob s = hk.obs s.abs := He.obsDG_eq (HandSHeadRun.getT_eq s)
def loose0 : List PySem.Str := ["__name__", "WishError", "NoText", "MOST_NAMES", "MOST_RULES", "is_whole", "is_row", "is_number_in", "made_words", "made_numbers", "made_either", "made_count", "made_not", "made_rule", "SMALL"]
def loose1 : List PySem.Str := ["FIGURES", "LONGEST", "MOST_FIGURES", "MOST_WISHES", "MOST_RANK", "MOST_WEIGHT", "is_name", "are_names", "number_of", "word_text", "word_of", "rule_text", "house_text", "row_rule", "rule_read"]
def loose2 : List PySem.Str := ["musts_read", "wish_read", "need_row", "read_house", "_law_row_of", "_law_pack", "_law_take", "_law_words", "_law_rule", "_law_weight", "_law_house", "_law_names", "_law_rule_row", "_law_written", "_law_same"]
def loose : List PySem.Str := loose0 ++ loose1 ++ loose2
theorem ok_is_whole : d_is_whole.Ok md.T := ⟨by kernel_rfl, by unfold DI.chk; kernel_rfl, fun _ _ _ _ _ _ us hl => match us, hl with | [_], _ => rfl⟩
theorem ok_is_row : d_is_row.Ok md.T := ⟨by kernel_rfl, by unfold DI.chk; kernel_rfl, fun _ _ _ _ _ _ us hl => match us, hl with | [_], _ => rfl⟩
theorem ok_is_number_in : d_is_number_in.Ok md.T := ⟨by kernel_rfl, by unfold DI.chk; kernel_rfl, fun _ _ _ _ _ _ us hl => match us, hl with | [_, _, _], _ => rfl⟩
theorem ok_made_words : d_made_words.Ok md.T := ⟨by kernel_rfl, by unfold DI.chk; kernel_rfl, fun _ _ _ _ _ _ us hl => match us, hl with | [_, _], _ => rfl⟩
theorem ok_made_numbers : d_made_numbers.Ok md.T := ⟨by kernel_rfl, by unfold DI.chk; kernel_rfl, fun _ _ _ _ _ _ us hl => match us, hl with | [_, _], _ => rfl⟩
theorem ok_made_either : d_made_either.Ok md.T := ⟨by kernel_rfl, by unfold DI.chk; kernel_rfl, fun _ _ _ _ _ _ us hl => match us, hl with | [_, _], _ => rfl⟩
theorem ok_made_count : d_made_count.Ok md.T := ⟨by kernel_rfl, by unfold DI.chk; kernel_rfl, fun _ _ _ _ _ _ us hl => match us, hl with | [_, _], _ => rfl⟩
theorem ok_made_not : d_made_not.Ok md.T := ⟨by kernel_rfl, by unfold DI.chk; kernel_rfl, fun _ _ _ _ _ _ us hl => match us, hl with | [_, _], _ => rfl⟩
theorem ok_made_rule : d_made_rule.Ok md.T := ⟨by kernel_rfl, by unfold DI.chk; kernel_rfl, fun _ _ _ _ _ _ us hl => match us, hl with | [_, _, _], _ => rfl⟩
theorem ok_is_name : d_is_name.Ok md.T := ⟨by kernel_rfl, by unfold DI.chk; kernel_rfl, fun _ _ _ _ _ _ us hl => match us, hl with | [_], _ => rfl⟩
theorem ok_are_names : d_are_names.Ok md.T := ⟨by kernel_rfl, by unfold DI.chk; kernel_rfl, fun _ _ _ _ _ _ us hl => match us, hl with | [_], _ => rfl⟩
theorem ok_number_of : d_number_of.Ok md.T := ⟨by kernel_rfl, by unfold DI.chk; kernel_rfl, fun _ _ _ _ _ _ us hl => match us, hl with | [_], _ => rfl⟩
theorem ok_word_text : d_word_text.Ok md.T := ⟨by kernel_rfl, by unfold DI.chk; kernel_rfl, fun _ _ _ _ _ _ us hl => match us, hl with | [_, _], _ => rfl⟩
theorem ok_word_of : d_word_of.Ok md.T := ⟨by kernel_rfl, by unfold DI.chk; kernel_rfl, fun _ _ _ _ _ _ us hl => match us, hl with | [_, _], _ => rfl⟩
theorem ok_rule_text : d_rule_text.Ok md.T := ⟨by kernel_rfl, by unfold DI.chk; kernel_rfl, fun _ _ _ _ _ _ us hl => match us, hl with | [_, _], _ => rfl⟩
theorem ok_house_text : d_house_text.Ok md.T := ⟨by kernel_rfl, by unfold DI.chk; kernel_rfl, fun _ _ _ _ _ _ us hl => match us, hl with | [_, _], _ => rfl⟩
theorem ok_row_rule : d_row_rule.Ok md.T := ⟨by kernel_rfl, by unfold DI.chk; kernel_rfl, fun _ _ _ _ _ _ us hl => match us, hl with | [_, _], _ => rfl⟩
theorem ok_rule_read : d_rule_read.Ok md.T := ⟨by kernel_rfl, by unfold DI.chk; kernel_rfl, fun _ _ _ _ _ _ us hl => match us, hl with | [_, _, _], _ => rfl⟩
theorem ok_musts_read : d_musts_read.Ok md.T := ⟨by kernel_rfl, by unfold DI.chk; kernel_rfl, fun _ _ _ _ _ _ us hl => match us, hl with | [_, _], _ => rfl⟩
theorem ok_wish_read : d_wish_read.Ok md.T := ⟨by kernel_rfl, by unfold DI.chk; kernel_rfl, fun _ _ _ _ _ _ us hl => match us, hl with | [_, _], _ => rfl⟩
theorem ok_need_row : d_need_row.Ok md.T := ⟨by kernel_rfl, by unfold DI.chk; kernel_rfl, fun _ _ _ _ _ _ us hl => match us, hl with | [_, _], _ => rfl⟩
theorem ok_read_house : d_read_house.Ok md.T := ⟨by kernel_rfl, by unfold DI.chk; kernel_rfl, fun _ _ _ _ _ _ us hl => match us, hl with | [_], _ => rfl⟩
theorem ok__law_row_of : d__law_row_of.Ok md.T := ⟨by kernel_rfl, by unfold DI.chk; kernel_rfl, fun _ _ _ _ _ _ us hl => match us, hl with | [_], _ => rfl⟩
theorem ok__law_pack : d__law_pack.Ok md.T := ⟨by kernel_rfl, by unfold DI.chk; kernel_rfl, fun _ _ _ _ _ _ us hl => match us, hl with | [_, _], _ => rfl⟩
theorem ok__law_take : d__law_take.Ok md.T := ⟨by kernel_rfl, by unfold DI.chk; kernel_rfl, fun _ _ _ _ _ _ us hl => match us, hl with | [_, _], _ => rfl⟩
theorem ok__law_words : d__law_words.Ok md.T := ⟨by kernel_rfl, by unfold DI.chk; kernel_rfl, fun _ _ _ _ _ _ us hl => match us, hl with | [_, _], _ => rfl⟩
theorem ok__law_rule : d__law_rule.Ok md.T := ⟨by kernel_rfl, by unfold DI.chk; kernel_rfl, fun _ _ _ _ _ _ us hl => match us, hl with | [_, _, _], _ => rfl⟩
theorem ok__law_weight : d__law_weight.Ok md.T := ⟨by kernel_rfl, by unfold DI.chk; kernel_rfl, fun _ _ _ _ _ _ us hl => match us, hl with | [_], _ => rfl⟩
theorem ok__law_house : d__law_house.Ok md.T := ⟨by kernel_rfl, by unfold DI.chk; kernel_rfl, fun _ _ _ _ _ _ us hl => match us, hl with | [_, _, _, _], _ => rfl⟩
theorem ok__law_names : d__law_names.Ok md.T := ⟨by kernel_rfl, by unfold DI.chk; kernel_rfl, fun _ _ _ _ _ _ us hl => match us, hl with | [_, _], _ => rfl⟩
theorem ok__law_rule_row : d__law_rule_row.Ok md.T := ⟨by kernel_rfl, by unfold DI.chk; kernel_rfl, fun _ _ _ _ _ _ us hl => match us, hl with | [_, _], _ => rfl⟩
theorem ok__law_written : d__law_written.Ok md.T := ⟨by kernel_rfl, by unfold DI.chk; kernel_rfl, fun _ _ _ _ _ _ us hl => match us, hl with | [_, _], _ => rfl⟩
theorem ok__law_same : d__law_same.Ok md.T := ⟨by kernel_rfl, by unfold DI.chk; kernel_rfl, fun _ _ _ _ _ _ us hl => match us, hl with | [_, _, _], _ => rfl⟩
theorem ok_law : d_law.Ok md.T := ⟨by kernel_rfl, by unfold DI.chk; kernel_rfl, fun _ _ _ _ _ _ us hl => match us, hl with | [_], _ => rfl⟩
theorem oks : ∀ d ∈ md.defs, d.Ok md.T := List.forall_mem_cons.2 ⟨ok_is_whole, List.forall_mem_cons.2 ⟨ok_is_row, List.forall_mem_cons.2 ⟨ok_is_number_in, List.forall_mem_cons.2 ⟨ok_made_words, List.forall_mem_cons.2 ⟨ok_made_numbers, List.forall_mem_cons.2 ⟨ok_made_either, List.forall_mem_cons.2 ⟨ok_made_count, List.forall_mem_cons.2 ⟨ok_made_not, List.forall_mem_cons.2 ⟨ok_made_rule, List.forall_mem_cons.2 ⟨ok_is_name, List.forall_mem_cons.2 ⟨ok_are_names, List.forall_mem_cons.2 ⟨ok_number_of, List.forall_mem_cons.2 ⟨ok_word_text, List.forall_mem_cons.2 ⟨ok_word_of, List.forall_mem_cons.2 ⟨ok_rule_text, List.forall_mem_cons.2 ⟨ok_house_text, List.forall_mem_cons.2 ⟨ok_row_rule, List.forall_mem_cons.2 ⟨ok_rule_read, List.forall_mem_cons.2 ⟨ok_musts_read, List.forall_mem_cons.2 ⟨ok_wish_read, List.forall_mem_cons.2 ⟨ok_need_row, List.forall_mem_cons.2 ⟨ok_read_house, List.forall_mem_cons.2 ⟨ok__law_row_of, List.forall_mem_cons.2 ⟨ok__law_pack, List.forall_mem_cons.2 ⟨ok__law_take, List.forall_mem_cons.2 ⟨ok__law_words, List.forall_mem_cons.2 ⟨ok__law_rule, List.forall_mem_cons.2 ⟨ok__law_weight, List.forall_mem_cons.2 ⟨ok__law_house, List.forall_mem_cons.2 ⟨ok__law_names, List.forall_mem_cons.2 ⟨ok__law_rule_row, List.forall_mem_cons.2 ⟨ok__law_written, List.forall_mem_cons.2 ⟨ok__law_same, List.forall_mem_cons.2 ⟨ok_law,  (fun _ h => absurd h (by simp))⟩⟩⟩⟩⟩⟩⟩⟩⟩⟩⟩⟩⟩⟩⟩⟩⟩⟩⟩⟩⟩⟩⟩⟩⟩⟩⟩⟩⟩⟩⟩⟩⟩⟩
theorem run (w : World) : HandSHeadRun.RunEq R (PySem.W.view R.prog [48]) hk ob 2000 loose w := by
  intro os
  kernel_rfl
end M71
end PyI
open PySem PySem.W PySem.Calls PyProof.Rows
theorem PySem.Challenge.cw_wishdues_k71_houses_written_and_read_holds : PySem.Challenge.rw_wishdues_k71_houses_written_and_read.Holds := by
  w_on; o_law
  refine HandSHeadRun.head_any (r := OpenLaw.row PySem.Challenge.rw_wishdues_k71_houses_written_and_read) (q := view (OpenLaw.row PySem.Challenge.rw_wishdues_k71_houses_written_and_read).prog [48]) (H := PyI.M71.hk) (ob := PyI.M71.ob) (M := 2000) (loose := PyI.M71.loose) (d := HandSHeadRun.topDef (OpenLaw.row PySem.Challenge.rw_wishdues_k71_houses_written_and_read).prog 48) (kwd := []) PyI.M71.ob_eq
    (by kernel_rfl) (fun s => by kernel_rfl) PyI.M71.run (by kernel_rfl) (by kernel_rfl) (by kernel_rfl) (by rfl) (by first | assumption | decide +kernel) (by decide +kernel) ⟨rfl, rfl, rfl, rfl, rfl, by decide +kernel⟩ ?hw ?hc
  case hw => w_witness2
  case hc =>
    exact PyI.law_end (l := PySem.Challenge.rw_wishdues_k71_houses_written_and_read) (n := 63) (k := 40) (x := "script") (m := PyI.M71.md) (d := PyI.M71.d_law) rfl (by decide) (by kernel_rfl) ⟨rfl, by decide, by decide⟩ (by kernel_rfl) (by rfl) (by kernel_rfl) rfl (by simp [PyI.M71.md]) PyI.M71.oks PyI.M71.plain_law
