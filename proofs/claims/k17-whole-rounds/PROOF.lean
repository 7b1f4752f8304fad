import PyProof.Rows.All
import Wide.All
import OpenK.AllK
import Wide.FinOn
import HandS.ForMost
import HandS.Wide
import KE.KeyNested
import HandS.IsInst
import HandS.ForExc
import HandS.ExcInit
import HandS.Style
import HandS.TryMany
import HandS.ExcField
import HandS.ExcOwn
import HandS.Defaults
import HandS.Small
import HandS.More
import HandS.Property
import HandS.Iter
import PyProof.SeqI3
import PyProof.Draws
import PyProof.EnumMake
import PyProof.TupleIter
import HandS.Codes
import HandS.OwnEq
import HandS.FStr
import HandS.Flow
import HandS.Text
import PyProof.InstNe
import PyProof.StrOps2
import KE.KDictDisplayH
import KE.KDictWalk
import HandS.Strs
import HandS.SetFor
import PyProof.FactsLen
import HandS.SortInts
import HandS.TupAny
import PySem.Challenge.RW_parcelends_k17_whole_rounds
set_option Elab.async false
set_option linter.all false
set_option maxRecDepth 100000
set_option maxHeartbeats 4100000
set_option exponentiation.threshold 100000
/-! A small program logic over the hand layer: values are data (D), a def's slots an abstract row (En), expressions read forward. -/
namespace Fz
open PySem PySem.Spec PyProof.Rows L2

/-! ### data -/
inductive D where
  | non | bl (b : Bool) | int (i : Int) | str (x : Str) | ref (a : Addr)
  | tup (ds : List D) | lst (ds : List D) | rdl (ds : List D) | dct (ks : List Key) (ds : List D) | ins (C : Addr) (fs : List Str) (ds : List D)
  | ndc (w : World) (ks : List D) (ds : List D)
/-- a fraction -/
abbrev fr (q : Rat) : D := .tup [.int q.num, .int q.den]
/-! keys of any depth -/
mutual
def nkD : D → NestedKey
  | .int i => .num i
  | .bl b => .num (if b = true then 1 else 0)
  | .str x => .text x
  | .tup ds => .tup (nkL ds)
  | _ => .none
def nkL : List D → List NestedKey
  | [] => []
  | d :: ds => nkD d :: nkL ds
end
mutual
def keyD : D → Bool
  | .non => true
  | .int _ => true
  | .bl _ => true
  | .str _ => true
  | .tup ds => keyL ds
  | _ => false
def keyL : List D → Bool
  | [] => true
  | d :: ds => keyD d && keyL ds
end
/-- a tuple that can be a key -/
def keyT : D → Bool
  | .tup ds => keyL ds && decide ((NestedKey.tup (nkL ds)).depth ≤ 8)
  | _ => false
/-- an object that is known and stays -/
abbrev FxO (a : Addr) (o : Obj) : HO := .ext fun h => h.get? a = some o
/-- a dict's object: its keys (and where their tuples stand), its values -/
def NdAt (w : World) (a : Addr) (o : Obj) (kvs : List (NestedKey × Addr × V)) : Prop := kvs.length ≤ sizeLine ∧ (a == sysModules) = false ∧ ∃ (ys : List (NestedKey × Addr × Value)) (es : Array DictEntry) (ep : Nat),
  Paired (fun p q => p.1 = q.1 ∧ p.2.1 = q.2.1 ∧ RelV p.2.2 q.2.2) kvs ys ∧ o.ExactDict ∧ o.data = .dict es ep ∧ es.toList = ys.map (fun x => (⟨x.1.hash w, .ref x.2.1, x.2.2⟩ : DictEntry)) ∧ (ys.map (·.1)).Nodup
mutual
inductive Rep (K : PySem.W.Frag) (S : Addr) (G : Hp) : V → D → Prop
  | non : Rep K S G .non .non
  | bl (b : Bool) : Rep K S G (.bl b) (.bl b)
  | int (i : Int) : Rep K S G (.int i) (.int i)
  | str (x : Str) : Rep K S G (.str x) (.str x)
  | ref (a : Addr) : Rep K S G (.ref a) (.ref a)
  | tup {a : Addr} {xs : List V} {ds : List D} : SqT K G a xs → RepAll K S G xs ds → Rep K S G (.ref a) (.tup ds)
  | rdl {a : Addr} {xs : List V} {ds : List D} : SqL K G a xs → RepAll K S G xs ds → Rep K S G (.ref a) (.rdl ds)
  | obj {a : Addr} {o : HO} {d : D} : G a = some o → Top K S G o d → Rep K S G (.ref a) d
inductive Top (K : PySem.W.Frag) (S : Addr) (G : Hp) : HO → D → Prop
  | lst {xs : List V} {ds : List D} : RepAll K S G xs ds → Top K S G (.lst xs) (.lst ds)
  | dct {kvs : List (Key × V)} {ks : List Key} {xs : List V} {ds : List D} : kvs.map (·.1) = ks → kvs.map (·.2) = xs → RepAll K S G xs ds → Top K S G (.dK kvs) (.dct ks ds)
  | ins {C dx : Addr} {kvs : List (Str × V)} {fs : List Str} {xs : List V} {ds : List D} : kvs.map (·.1) = fs → kvs.map (·.2) = xs → RepAll K S G xs ds → Top K S G (.ins C dx kvs) (.ins C fs ds)
  | ndc {a : Addr} {o : Obj} {kvs : List (NestedKey × Addr × V)} {w : World} {bs xs : List V} {ks ds : List D} : NdAt w a o kvs → kvs.map (·.1) = ks.map nkD → (∀ k ∈ ks, keyT k = true) → kvs.map (fun p => V.ref p.2.1) = bs → kvs.map (fun p => p.2.2) = xs → RepAll K S G bs ks → RepAll K S G xs ds → Top K S G (FxO a o) (.ndc w ks ds)
inductive RepAll (K : PySem.W.Frag) (S : Addr) (G : Hp) : List V → List D → Prop
  | nil : RepAll K S G [] []
  | cons {v : V} {vs : List V} {d : D} {ds : List D} : Rep K S G v d → RepAll K S G vs ds → RepAll K S G (v :: vs) (d :: ds)
end
section
variable {K : PySem.W.Frag} {S : Addr} {G G' : Hp}
theorem same_seqT {a : Addr} {xs : List V} (e : Same G G') (h : SqT K G a xs) : SqT K G' a xs := by
  rcases h with (h | ⟨o, h⟩) | h
  · exact .inl (.inl (e _ _ h))
  · exact .inl (.inr ⟨o, e _ _ h⟩)
  · exact .inr h
mutual
theorem Rep.mono (e : Same G G') : ∀ {v : V} {d : D}, Rep K S G v d → Rep K S G' v d
  | _, _, .non => .non
  | _, _, .bl b => .bl b
  | _, _, .int i => .int i
  | _, _, .str x => .str x
  | _, _, .ref a => .ref a
  | _, _, .tup h a => .tup (same_seqT e h) (RepAll.mono e a)
  | _, _, .rdl h a => .rdl (Same.seq e h) (RepAll.mono e a)
  | _, _, .obj h t => .obj (e _ _ h) (Top.mono e t)
theorem Top.mono (e : Same G G') : ∀ {o : HO} {d : D}, Top K S G o d → Top K S G' o d
  | _, _, .lst a => .lst (RepAll.mono e a)
  | _, _, .dct h1 h2 a => .dct h1 h2 (RepAll.mono e a)
  | _, _, .ins h1 h2 a => .ins h1 h2 (RepAll.mono e a)
  | _, _, .ndc h1 h2 h3 h4 h5 a b => .ndc h1 h2 h3 h4 h5 (RepAll.mono e a) (RepAll.mono e b)
theorem RepAll.mono (e : Same G G') : ∀ {vs : List V} {ds : List D}, RepAll K S G vs ds → RepAll K S G' vs ds
  | _, _, .nil => .nil
  | _, _, .cons h a => .cons (Rep.mono e h) (RepAll.mono e a)
end
theorem RepAll.length : ∀ {vs : List V} {ds : List D}, RepAll K S G vs ds → vs.length = ds.length
  | _, _, .nil => rfl
  | _, _, .cons _ a => by rw [List.length_cons, List.length_cons, RepAll.length a]
theorem RepAll.get : ∀ {vs : List V} {ds : List D} {i : Nat} {d : D}, RepAll K S G vs ds → ds[i]? = some d → ∃ v, vs[i]? = some v ∧ Rep K S G v d
  | _, _, _, _, .nil, h => by simp at h
  | _, _, 0, d, .cons (v := v) r _, h => ⟨v, rfl, by have e := Option.some.inj h; rw [← e]; exact r⟩
  | _, _, i + 1, d, .cons _ a, h => RepAll.get (i := i) a h
theorem RepAll.getV : ∀ {vs : List V} {ds : List D} {i : Nat} {v : V}, RepAll K S G vs ds → vs[i]? = some v → ∃ d, ds[i]? = some d ∧ Rep K S G v d
  | _, _, _, _, .nil, h => by simp at h
  | _, _, 0, v, .cons (d := d) r _, h => ⟨d, rfl, by have e := Option.some.inj h; rw [← e]; exact r⟩
  | _, _, i + 1, d, .cons _ a, h => RepAll.getV (i := i) a h
theorem RepAll.append : ∀ {vs ws : List V} {ds es : List D}, RepAll K S G vs ds → RepAll K S G ws es → RepAll K S G (vs ++ ws) (ds ++ es)
  | _, _, _, _, .nil, h => h
  | _, _, _, _, .cons r a, h => .cons r (RepAll.append a h)
theorem RepAll.one {v : V} {d : D} (h : Rep K S G v d) : RepAll K S G [v] [d] := .cons h .nil
theorem RepAll.take : ∀ {vs : List V} {ds : List D} (n : Nat), RepAll K S G vs ds → RepAll K S G (vs.take n) (ds.take n)
  | _, _, 0, _ => .nil
  | _, _, _ + 1, .nil => .nil
  | _, _, n + 1, .cons r a => .cons r (RepAll.take n a)
theorem RepAll.drop : ∀ {vs : List V} {ds : List D} (n : Nat), RepAll K S G vs ds → RepAll K S G (vs.drop n) (ds.drop n)
  | _, _, 0, h => h
  | _, _, _ + 1, .nil => .nil
  | _, _, n + 1, .cons _ a => RepAll.drop n a
theorem RepAll.reverse : ∀ {vs : List V} {ds : List D}, RepAll K S G vs ds → RepAll K S G vs.reverse ds.reverse
  | _, _, .nil => .nil
  | _, _, .cons r a => by
    rw [List.reverse_cons, List.reverse_cons]
    exact (RepAll.reverse a).append (.one r)
theorem RepAll.set {v : V} {d : D} (r : Rep K S G v d) : ∀ {vs : List V} {ds : List D} (i : Nat), RepAll K S G vs ds → RepAll K S G (vs.set i v) (ds.set i d)
  | _, _, _, .nil => .nil
  | _, _, 0, .cons _ a => .cons r a
  | _, _, i + 1, .cons q a => .cons q (RepAll.set r i a)
end

/-! ### the heap's growth -/
structure Gr (W : Addr → Prop) (G H G' H' : Hp) : Prop where
  g : Same G G'
  s : Same G' H'
  h : ∀ b o, ¬ W b → H b = some o → H' b = some o
  d : ∀ b o, H b = some o → G b = none → G' b = none
abbrev noW : Addr → Prop := fun _ => False
theorem Gr.refl {W : Addr → Prop} {G H : Hp} (s : Same G H) : Gr W G H G H := ⟨.refl G, s, fun _ _ _ h => h, fun _ _ _ h => h⟩
theorem Gr.same {G H G' H' : Hp} (a : Gr noW G H G' H') : Same H H' := fun b o h => a.h b o (fun z => z) h
structure Md where
  W : Addr → Prop
  I : Hp → Hp → Prop
  nn : ∀ {G H : Hp} {b : Addr}, I G H → W b → G b = none ∧ ∃ o, H b = some o
  st : ∀ {G H G' H' : Hp}, I G H → Same G G' → Same G' H' → (∀ b, W b → G' b = none) → (∀ b o, W b → H b = some o → H' b = some o) → I G' H'
def pur : Md := ⟨noW, fun _ _ => True, fun _ w => w.elim, fun _ _ _ _ _ => trivial⟩
theorem Gr.trans {M : Md} {G H G1 H1 G2 H2 : Hp} (i1 : M.I G1 H1) (a : Gr M.W G H G1 H1) (b : Gr M.W G1 H1 G2 H2) : Gr M.W G H G2 H2 := by
  refine ⟨a.g.trans b.g, b.s, fun x o n h => b.h x o n (a.h x o n h), fun x o h n => ?_⟩
  by_cases w : M.W x
  · obtain ⟨n1, o1, h1⟩ := M.nn i1 w
    exact b.d x o1 h1 n1
  · exact b.d x o (a.h x o w h) (a.d x o h n)
/-- a step that keeps all -/
theorem Gr.up {M : Md} {G H G' H' : Hp} (i : M.I G H) (a : Gr noW G H G' H') : Gr M.W G H G' H' ∧ M.I G' H' :=
  ⟨⟨a.g, a.s, fun b o _ h => a.same b o h, a.d⟩, M.st i a.g a.s (fun b w => by
    obtain ⟨n, o, h⟩ := M.nn i w
    exact a.d b o h n) fun b o _ h => a.same b o h⟩
theorem same_new {H : Hp} {p : Addr} {o : HO} (h : H p = none) : Same H (upd H p o) := fun b x e => by
  rw [upd_ne (ne_of_none e h)]
  exact e
/-- a new object, known at once -/
theorem Gr.new {G H : Hp} {p : Addr} {o : HO} (s : Same G H) (h : H p = none) : Gr noW G H (upd G p o) (upd H p o) := by
  refine ⟨same_new (s.free h), fun b x e => ?_, fun b x _ e => same_new h b x e, fun b x e n => ?_⟩
  · by_cases hb : b = p
    · subst hb; rw [upd_same] at e ⊢; exact e
    · rw [upd_ne hb] at e ⊢; exact s b x e
  · rw [upd_ne (ne_of_none e h)]; exact n

/-! ### a def's slots -/
/-- an instance and the list that one field holds, both the frame's own: where they stand, what they are -/
structure Rd where
  p : Addr
  ls : Addr
  o : HO
  xs : List V
  C : Addr
  f1 : List Str
  d1 : List D
  sf : Str
  st : List D
  f2 : List Str
  d2 : List D
abbrev Rd.has (r : Rd) (b : Addr) : Prop := b = r.p ∨ b = r.ls
structure RdRep (K : PySem.W.Frag) (S : Addr) (G : Hp) (r : Rd) : Prop where
  ex : ∃ dx kvs1 kvs2, r.o = .ins r.C dx (kvs1 ++ (r.sf, V.ref r.ls) :: kvs2) ∧ kvs1.map (·.1) = r.f1 ∧ RepAll K S G (kvs1.map (·.2)) r.d1 ∧ kvs2.map (·.1) = r.f2 ∧ RepAll K S G (kvs2.map (·.2)) r.d2 ∧ RepAll K S G r.xs r.st
theorem RdRep.mono {K : PySem.W.Frag} {S : Addr} {G G' : Hp} {r : Rd} (e : Same G G') (h : RdRep K S G r) : RdRep K S G' r := by
  obtain ⟨dx, k1, k2, h1, h2, h3, h4, h5, h6⟩ := h.ex
  exact ⟨dx, k1, k2, h1, h2, h3.mono e, h4, h5.mono e, h6.mono e⟩
inductive En where
  | no | val (d : D) | ow (q : Option Addr) (d : D) | rd (r : Rd)
/-- an object that only this slot holds -/
abbrev En.own (d : D) : En := .ow none d
structure Bx where
  X : Cx
  S : Addr
  M : Md
  G0 : Hp
  H0 : Hp
structure RdOk (B : Bx) (ρ : List En) (σ : L2.St) (H G : Hp) : Prop where
  a0 : ∀ (i : Nat) (r : Rd), ρ[i]? = some (En.rd r) → σ[i]? = some (some (.ref r.p)) ∧ H r.p = some r.o ∧ H r.ls = some (.lst r.xs) ∧ RdRep B.X.K B.S G r ∧ r.p ≠ r.ls ∧ ∀ b, r.has b → G b = none ∧ B.H0 b = none ∧ ¬ B.M.W b
  rr : ∀ (i j : Nat) (r r' : Rd), ρ[i]? = some (En.rd r) → ρ[j]? = some (En.rd r') → i ≠ j → ∀ b, r.has b → ¬ r'.has b
  ro : ∀ (i j : Nat) (r : Rd) (q : Option Addr) (d : D) (x : Addr), ρ[i]? = some (En.rd r) → ρ[j]? = some (En.ow q d) → σ[j]? = some (some (.ref x)) → ¬ r.has x
theorem RdOk.sm {B : Bx} {ρ : List En} {σ : L2.St} {H G : Hp} (s : RdOk B ρ σ H G) {i : Nat} {r : Rd} (h : ρ[i]? = some (En.rd r)) {b : Addr} (hb : r.has b) : ∃ o, H b = some o := by
  obtain ⟨_, h1, h2, _⟩ := s.a0 i r h
  rcases hb with rfl | rfl
  · exact ⟨_, h1⟩
  · exact ⟨_, h2⟩
theorem RdOk.move {B B' : Bx} {ρ ρ' : List En} {σ σ' : L2.St} {H G H' G' : Hp} (s : RdOk B ρ σ H G) (hK : B'.X.K = B.X.K) (hS : B'.S = B.S) (hρ : ∀ (i : Nat) (r : Rd), ρ'[i]? = some (En.rd r) → ρ[i]? = some (En.rd r) ∧ σ'[i]? = σ[i]?) (hH : ∀ (i : Nat) (r : Rd), ρ'[i]? = some (En.rd r) → ∀ b o, r.has b → H b = some o → H' b = some o) (hg : Same G G')
    (hG : ∀ (i : Nat) (r : Rd), ρ'[i]? = some (En.rd r) → ∀ b, r.has b → G' b = none ∧ B'.H0 b = none ∧ ¬ B'.M.W b) (ho : ∀ (i j : Nat) (r : Rd) (q : Option Addr) (d : D) (x : Addr), ρ'[i]? = some (En.rd r) → ρ'[j]? = some (En.ow q d) → σ'[j]? = some (some (.ref x)) → ¬ r.has x) : RdOk B' ρ' σ' H' G' where
  a0 := fun i r h => by
    obtain ⟨h0, hs⟩ := hρ i r h
    obtain ⟨a1, a2, a3, a4, a5, a6⟩ := s.a0 i r h0
    exact ⟨hs.trans a1, hH i r h _ _ (.inl rfl) a2, hH i r h _ _ (.inr rfl) a3, by rw [hK, hS]; exact a4.mono hg, a5, hG i r h⟩
  rr := fun i j r r' h1 h2 => s.rr i j r r' (hρ i r h1).1 (hρ j r' h2).1
  ro := ho
theorem RdOk.non0 {B : Bx} {ρ : List En} {σ : L2.St} {H G : Hp} (h : ∀ (i : Nat) (r : Rd), ρ[i]? ≠ Option.some (En.rd r)) : RdOk B ρ σ H G := ⟨fun i r e => absurd e (h i r), fun i j r r' e => absurd e (h i r), fun i j r q d x e => absurd e (h i r)⟩
structure StOk (B : Bx) (ρ : List En) (σ : L2.St) (H G : Hp) : Prop where
  gr : Gr B.M.W B.G0 B.H0 G H
  inv : B.M.I G H
  len : σ.length = ρ.length
  va : ∀ (i : Nat) (d : D), ρ[i]? = some (En.val d) → ∃ v, σ[i]? = some (some v) ∧ Rep B.X.K B.S G v d
  ow : ∀ (i : Nat) (q : Option Addr) (d : D), ρ[i]? = some (En.ow q d) → ∃ p o, σ[i]? = some (some (.ref p)) ∧ H p = some o ∧ G p = none ∧ B.H0 p = none ∧ ¬ B.M.W p ∧ Top B.X.K B.S G o d ∧ ∀ a, q = some a → p = a
  ap : ∀ (i j : Nat) (q r : Option Addr) (d e : D) (p : Addr), ρ[i]? = some (En.ow q d) → ρ[j]? = some (En.ow r e) → σ[i]? = some (some (.ref p)) → σ[j]? = some (some (.ref p)) → i = j
  rd : RdOk B ρ σ H G
section
variable {B : Bx} {ρ : List En} {σ : L2.St} {H G H' G' : Hp}
theorem RdOk.step (s : RdOk B ρ σ H G) (a : Gr B.M.W G H G' H') : RdOk B ρ σ H' G' :=
  s.move rfl rfl (fun i r h => ⟨h, rfl⟩) (fun i r h b o hb e => a.h b o ((s.a0 i r h).2.2.2.2.2 b hb).2.2 e) a.g (fun i r h b hb => by
    obtain ⟨n, n0, w⟩ := (s.a0 i r h).2.2.2.2.2 b hb
    obtain ⟨o, e⟩ := s.sm h hb
    exact ⟨a.d b o e n, n0, w⟩) s.ro
/-- a slot gets what is neither -/
theorem RdOk.set (s : RdOk B ρ σ H G) {i : Nat} {e : En} {u : Option V} (h1 : ∀ r, e ≠ En.rd r) (h2 : ∀ q d, e ≠ En.ow q d) : RdOk B (ρ.set i e) (σ.set i u) H G := by
  have k : ∀ {j : Nat} {f : En}, (ρ.set i e)[j]? = Option.some f → (e ≠ f) → i ≠ j ∧ ρ[j]? = Option.some f := fun {j f} h hne => by
    by_cases hij : i = j
    · subst hij
      have hl : i < ρ.length := by
        have := (List.getElem?_eq_some_iff.mp h).1
        rwa [List.length_set] at this
      rw [List.getElem?_set_self hl] at h
      exact absurd (Option.some.inj h) hne
    · rw [List.getElem?_set_ne hij] at h
      exact ⟨hij, h⟩
  refine s.move rfl rfl (fun j r h => ?_) (fun j r h b o _ z => z) (.refl G) (fun j r h b hb => ?_) (fun a j r q d x ha hj hx => ?_)
  · obtain ⟨hn, h⟩ := k h (h1 r)
    exact ⟨h, List.getElem?_set_ne hn⟩
  · exact (s.a0 j r (k h (h1 r)).2).2.2.2.2.2 b hb
  · obtain ⟨hn, hj⟩ := k hj (h2 q d)
    rw [List.getElem?_set_ne hn] at hx
    exact s.ro a j r q d x (k ha (h1 r)).2 hj hx
theorem rd_other {ρ : List En} {i j : Nat} {e : En} {r : Rd} (h : (ρ.set i e)[j]? = some (En.rd r)) (hne : e ≠ En.rd r) : i ≠ j ∧ ρ[j]? = some (En.rd r) := by
  by_cases hij : i = j
  · subst hij
    have hl : i < ρ.length := by
      have := (List.getElem?_eq_some_iff.mp h).1
      rwa [List.length_set] at this
    rw [List.getElem?_set_self hl] at h
    exact absurd (Option.some.inj h) hne
  · rw [List.getElem?_set_ne hij] at h
    exact ⟨hij, h⟩
/-- a new own object in slot i -/
theorem RdOk.putOw (s : RdOk B ρ σ H G) {i : Nat} {p : Addr} {d0 : D} (hl : i < σ.length) (hH : ∀ b o, b ≠ p → H b = some o → H' b = some o) (n : ∀ (j : Nat) (r : Rd), ρ[j]? = some (En.rd r) → ¬ r.has p) : RdOk B (ρ.set i (En.own d0)) (σ.set i (some (.ref p))) H' G := by
  refine s.move rfl rfl (fun j r h => ?_) (fun j r h b o hb e => ?_) (.refl G) (fun j r h b hb => ?_) (fun a j r q d x ha hj hx => ?_)
  · obtain ⟨hn, h⟩ := rd_other h (fun z => nomatch z)
    exact ⟨h, List.getElem?_set_ne hn⟩
  · obtain ⟨hn, h⟩ := rd_other h (fun z => nomatch z)
    exact hH b o (fun (z : b = p) => n j r h (by rw [← z]; exact hb)) e
  · exact (s.a0 j r (rd_other h (fun z => nomatch z)).2).2.2.2.2.2 b hb
  · obtain ⟨hn, ha⟩ := rd_other ha (fun z => nomatch z)
    by_cases hij : i = j
    · subst hij
      rw [List.getElem?_set_self hl] at hx
      cases hx
      exact n a r ha
    · rw [List.getElem?_set_ne hij] at hx hj
      exact s.ro a j r q d x ha hj hx
/-- an own object changed -/
theorem RdOk.change (s : RdOk B ρ σ H G) {j : Nat} {q0 : Option Addr} {d d1 : D} {p : Addr} {o' : HO} (hj : ρ[j]? = some (En.ow q0 d)) (hp : σ[j]? = some (some (.ref p))) : RdOk B (ρ.set j (.ow q0 d1)) σ (upd H p o') G := by
  refine s.move rfl rfl (fun i r h => ⟨(rd_other h (fun z => nomatch z)).2, rfl⟩) (fun i r h b o hb e => ?_) (.refl G) (fun i r h b hb => (s.a0 i r (rd_other h (fun z => nomatch z)).2).2.2.2.2.2 b hb) (fun a i r q e x ha hi hx => ?_)
  · have h := (rd_other h (fun z => nomatch z)).2
    rw [upd_ne (fun (z : b = p) => s.ro i j r q0 d p h hj hp (by rw [← z]; exact hb))]
    exact e
  · have ha := (rd_other ha (fun z => nomatch z)).2
    by_cases hij : j = i
    · subst hij
      exact s.ro a j r q0 d x ha hj hx
    · rw [List.getElem?_set_ne hij] at hi
      exact s.ro a i r q e x ha hi hx
/-- an own object let go -/
theorem RdOk.frz (s : RdOk B ρ σ H G) {j : Nat} {q0 : Option Addr} {d : D} {p : Addr} {o : HO} (hj : ρ[j]? = some (En.ow q0 d)) (hp : σ[j]? = some (some (.ref p))) (gp : G p = none) : RdOk B (ρ.set j (.val d)) σ H (upd G p o) := by
  refine s.move rfl rfl (fun i r h => ⟨(rd_other h (fun z => nomatch z)).2, rfl⟩) (fun i r h b o hb e => e) (same_new gp) (fun i r h b hb => ?_) (fun a i r q e x ha hi hx => ?_)
  · have h := (rd_other h (fun z => nomatch z)).2
    rw [upd_ne (fun (z : b = p) => s.ro i j r q0 d p h hj hp (by rw [← z]; exact hb))]
    exact (s.a0 i r h).2.2.2.2.2 b hb
  · have ha := (rd_other ha (fun z => nomatch z)).2
    by_cases hij : j = i
    · subst hij
      have hl : j < ρ.length := by
        have := (List.getElem?_eq_some_iff.mp hi).1
        rwa [List.length_set] at this
      rw [List.getElem?_set_self hl] at hi
      cases hi
    · rw [List.getElem?_set_ne hij] at hi
      exact s.ro a i r q e x ha hi hx
theorem StOk.step (s : StOk B ρ σ H G) (a : Gr B.M.W G H G' H') (i : B.M.I G' H') : StOk B ρ σ H' G' where
  gr := s.gr.trans s.inv a
  inv := i
  len := s.len
  va := fun j d h => by
    obtain ⟨v, e, r⟩ := s.va j d h
    exact ⟨v, e, r.mono a.g⟩
  ow := fun j q d h => by
    obtain ⟨p, o, e, hp, gp, h0, w, t, z⟩ := s.ow j q d h
    exact ⟨p, o, e, a.h p o w hp, a.d p o hp gp, h0, w, t.mono a.g, z⟩
  ap := s.ap
  rd := s.rd.step a
/-- a name is stored -/
theorem StOk.put (s : StOk B ρ σ H G) {i : Nat} {v : V} {d0 : D} (r : Rep B.X.K B.S G v d0) : StOk B (ρ.set i (En.val d0)) (σ.set i (some v)) H G where
  gr := s.gr
  inv := s.inv
  len := by rw [List.length_set, List.length_set, s.len]
  va := fun j e h => by
    by_cases hij : i = j
    · subst hij
      have hl : i < ρ.length := by
        have := (List.getElem?_eq_some_iff.mp h).1
        rwa [List.length_set] at this
      rw [List.getElem?_set_self hl] at h
      cases h
      exact ⟨v, List.getElem?_set_self (by rw [s.len]; exact hl), r⟩
    · rw [List.getElem?_set_ne hij] at h ⊢
      exact s.va j e h
  ow := fun j q0 e h => by
    by_cases hij : i = j
    · subst hij
      have hl : i < ρ.length := by
        have := (List.getElem?_eq_some_iff.mp h).1
        rwa [List.length_set] at this
      rw [List.getElem?_set_self hl] at h
      cases h
    · rw [List.getElem?_set_ne hij] at h ⊢
      exact s.ow j q0 e h
  ap := fun a b q0 r0 d e p h1 h2 h3 h4 => by
    have k : ∀ (c : Nat) (q : Option Addr) (f : D), (ρ.set i (En.val d0))[c]? = some (En.ow q f) → i ≠ c := fun c q f h z => by
      subst z
      have hl : i < ρ.length := by
        have := (List.getElem?_eq_some_iff.mp h).1
        rwa [List.length_set] at this
      rw [List.getElem?_set_self hl] at h
      cases h
    have n1 := k a _ d h1
    have n2 := k b _ e h2
    rw [List.getElem?_set_ne n1] at h1 h3
    rw [List.getElem?_set_ne n2] at h2 h4
    exact s.ap a b _ _ d e p h1 h2 h3 h4
  rd := s.rd.set (fun _ z => nomatch z) fun _ _ z => nomatch z
end

/-! ### what a value is, by its data -/
section
variable {K : PySem.W.Frag} {S : Addr} {G : Hp} {v : V}
theorem Rep.intI {i : Int} (h : Rep K S G v (.int i)) : v = .int i := by
  cases h with
  | int => rfl
  | obj _ t => cases t
theorem Rep.blI {i : Bool} (h : Rep K S G v (.bl i)) : v = .bl i := by
  cases h with
  | bl => rfl
  | obj _ t => cases t
theorem Rep.strI {i : Str} (h : Rep K S G v (.str i)) : v = .str i := by
  cases h with
  | str => rfl
  | obj _ t => cases t
theorem Rep.nonI (h : Rep K S G v .non) : v = .non := by
  cases h with
  | non => rfl
  | obj _ t => cases t
theorem Rep.refI {a : Addr} (h : Rep K S G v (.ref a)) : v = .ref a := by
  cases h with
  | ref => rfl
  | obj _ t => cases t
theorem Rep.tupI {ds : List D} (h : Rep K S G v (.tup ds)) : ∃ a xs, v = .ref a ∧ SqT K G a xs ∧ RepAll K S G xs ds := by
  cases h with
  | tup h a => exact ⟨_, _, rfl, h, a⟩
  | obj _ t => cases t
theorem Rep.rdlI {ds : List D} (h : Rep K S G v (.rdl ds)) : ∃ a xs, v = .ref a ∧ SqL K G a xs ∧ RepAll K S G xs ds := by
  cases h with
  | rdl h a => exact ⟨_, _, rfl, h, a⟩
  | obj _ t => cases t
theorem Rep.lstI {ds : List D} (h : Rep K S G v (.lst ds)) : ∃ a xs, v = .ref a ∧ G a = some (.lst xs) ∧ RepAll K S G xs ds := by
  cases h with
  | obj h t =>
    cases t with
    | lst a => exact ⟨_, _, rfl, h, a⟩
theorem Rep.dctI {ks : List Key} {ds : List D} (h : Rep K S G v (.dct ks ds)) : ∃ a kvs, v = .ref a ∧ G a = some (.dK kvs) ∧ kvs.map (·.1) = ks ∧ RepAll K S G (kvs.map (·.2)) ds := by
  cases h with
  | obj h t =>
    cases t with
    | dct h1 h2 a => exact ⟨_, _, rfl, h, h1, by rw [h2]; exact a⟩
theorem Rep.insI {C : Addr} {fs : List Str} {ds : List D} (h : Rep K S G v (.ins C fs ds)) : ∃ a dx kvs, v = .ref a ∧ G a = some (.ins C dx kvs) ∧ kvs.map (·.1) = fs ∧ RepAll K S G (kvs.map (·.2)) ds := by
  cases h with
  | obj h t =>
    cases t with
    | ins h1 h2 a => exact ⟨_, _, _, rfl, h, h1, by rw [h2]; exact a⟩
theorem Rep.ndcI {w : World} {ks ds : List D} (h : Rep K S G v (.ndc w ks ds)) : ∃ (a b : Addr) (o : Obj) (kvs : List (NestedKey × Addr × V)), v = .ref a ∧ G a = some (FxO b o) ∧ NdAt w b o kvs ∧ kvs.map (·.1) = ks.map nkD ∧ (∀ k ∈ ks, keyT k = true) ∧ RepAll K S G (kvs.map fun p => V.ref p.2.1) ks ∧ RepAll K S G (kvs.map fun p => p.2.2) ds := by
  cases h with
  | obj h t =>
    cases t with
    | ndc h1 h2 h3 h4 h5 a b => exact ⟨_, _, _, _, rfl, h, h1, h2, h3, by rw [h4]; exact a, by rw [h5]; exact b⟩
theorem RepAll.mapInt : ∀ {vs : List V} {ns : List Int}, RepAll K S G vs (ns.map D.int) → vs = ns.map V.int
  | _, [], .nil => rfl
  | _, n :: ns, .cons h a => by rw [h.intI, RepAll.mapInt a]; rfl
end

/-! ### expressions, tests, arguments: read forward -/
def tW (X : Cx) (e : Expr) : TE := fun σ H Q => ∀ pins s, Inv X pins σ H s → wpAny (model X.prog X.w) X.A (eval e X.env) (EP X pins σ Q) X.xe s
def tWT (X : Cx) (e : Expr) : TT := fun σ H Q => ∀ pins s, Inv X pins σ H s → wpAny (model X.prog X.w) X.A (isTrue e X.env (eval e X.env)) (TP X pins σ Q) X.xe s
def tWA (X : Cx) (es : List Expr) : TA := fun σ H Q => ∀ pos pins s, Inv X pins σ H s → wpAny (model X.prog X.w) X.A (spliced (backTo pos (starEach es X.env))) (AP X pins σ Q) X.xe s
def tWS (X : Cx) (st : List Stmt) : TS := fun D σ H => ∀ pins s, Inv X pins σ H s → wpAny (model X.prog X.w) X.A (execs st X.env) (SP X pins D) X.xe s
theorem pe_W {X : Cx} {e : Expr} : PE X e (tW X e) := ⟨fun pins s _ _ _ I h => h pins s I⟩
theorem pt_W {X : Cx} {e : Expr} : PT X e (tWT X e) := ⟨fun pins s _ _ _ I h => h pins s I⟩
theorem pa_W {X : Cx} {es : List Expr} : PA X es (tWA X es) := ⟨fun pos pins s _ _ _ I h => h pos pins s I⟩
theorem pss_W {X : Cx} {st : List Stmt} : PSs X st (tWS X st) := ⟨fun pins s _ _ _ I h => h pins s I⟩
def Kd (B : Bx) (G H : Hp) (k : D → Prop) : VK := fun v H' => ∃ d G', Gr B.M.W G H G' H' ∧ B.M.I G' H' ∧ Rep B.X.K B.S G' v d ∧ k d
def Kt (B : Bx) (G H : Hp) (k : Bool → Prop) : Bool → Hp → Prop := fun b H' => ∃ G', Gr B.M.W G H G' H' ∧ B.M.I G' H' ∧ k b
def Ka (B : Bx) (G H : Hp) (k : List D → Prop) : List V → Hp → Prop := fun vs H' => ∃ ds G', Gr B.M.W G H G' H' ∧ B.M.I G' H' ∧ RepAll B.X.K B.S G' vs ds ∧ k ds
def Tk (B : Bx) (ρ : List En) (e : Expr) (k : D → Prop) : Prop := ∀ σ H G, StOk B ρ σ H G → tW B.X e σ H (Kd B G H k)
def Tt (B : Bx) (ρ : List En) (e : Expr) (k : Bool → Prop) : Prop := ∀ σ H G, StOk B ρ σ H G → tWT B.X e σ H (Kt B G H k)
def Ta (B : Bx) (ρ : List En) (es : List Expr) (k : List D → Prop) : Prop := ∀ σ H G, StOk B ρ σ H G → tWA B.X es σ H (Ka B G H k)
section
variable {B : Bx} {ρ : List En} {σ : L2.St} {H G H1 G1 : Hp} {e : Expr} {es : List Expr} {k : D → Prop}
theorem Tk.te (h : Tk B ρ e k) (s : StOk B ρ σ H G) {Q : VK} (q : ∀ v d G' H', Gr B.M.W G H G' H' → B.M.I G' H' → Rep B.X.K B.S G' v d → k d → Q v H') : tW B.X e σ H Q := fun pins s0 I =>
  thn (h σ H G s pins s0 I) fun _ _ ⟨v, H', I', r, d, G', g, i, rp, kd⟩ => ⟨v, H', I', r, q v d G' H' g i rp kd⟩
theorem Tt.tt {k : Bool → Prop} (h : Tt B ρ e k) (s : StOk B ρ σ H G) {Q : Bool → Hp → Prop} (q : ∀ b G' H', Gr B.M.W G H G' H' → B.M.I G' H' → k b → Q b H') : tWT B.X e σ H Q := fun pins s0 I =>
  thn (h σ H G s pins s0 I) fun b _ ⟨H', I', G', g, i, kd⟩ => ⟨H', I', q b G' H' g i kd⟩
theorem Ta.ta {k : List D → Prop} (h : Ta B ρ es k) (s : StOk B ρ σ H G) {Q : List V → Hp → Prop} (q : ∀ vs ds G' H', Gr B.M.W G H G' H' → B.M.I G' H' → RepAll B.X.K B.S G' vs ds → k ds → Q vs H') : tWA B.X es σ H Q := fun pos pins s0 I =>
  thn (h σ H G s pos pins s0 I) fun _ _ ⟨vs, H', I', r, ds, G', g, i, rp, kd⟩ => ⟨vs, H', I', r, q vs ds G' H' g i rp kd⟩
/-- by a rule of the hand layer -/
theorem Tk.of (h : ∀ σ H G, StOk B ρ σ H G → ∃ t : TE, PE B.X e t ∧ t σ H (Kd B G H k)) : Tk B ρ e k := fun σ H G s pins s0 I => by
  obtain ⟨t, p, q⟩ := h σ H G s
  exact p.run pins s0 σ H _ I q
theorem Tt.of {k : Bool → Prop} (h : ∀ σ H G, StOk B ρ σ H G → ∃ t : TT, PT B.X e t ∧ t σ H (Kt B G H k)) : Tt B ρ e k := fun σ H G s pins s0 I => by
  obtain ⟨t, p, q⟩ := h σ H G s
  exact p.run pins s0 σ H _ I q
theorem Ta.of {k : List D → Prop} (h : ∀ σ H G, StOk B ρ σ H G → ∃ t : TA, PA B.X es t ∧ t σ H (Ka B G H k)) : Ta B ρ es k := fun σ H G s pos pins s0 I => by
  obtain ⟨t, p, q⟩ := h σ H G s
  exact p.run pos pins s0 σ H _ I q
theorem Kd.now (s : StOk B ρ σ H G) {v : V} {d : D} (r : Rep B.X.K B.S G v d) (h : k d) : Kd B G H k v H := ⟨d, G, .refl s.gr.s, s.inv, r, h⟩
theorem Kt.now (s : StOk B ρ σ H G) {k : Bool → Prop} {b : Bool} (h : k b) : Kt B G H k b H := ⟨G, .refl s.gr.s, s.inv, h⟩
theorem Kd.back {v : V} {H' : Hp} (i1 : B.M.I G1 H1) (a : Gr B.M.W G H G1 H1) (h : Kd B G1 H1 k v H') : Kd B G H k v H' := by
  obtain ⟨d, G', g, j, r, q⟩ := h
  exact ⟨d, G', a.trans i1 g, j, r, q⟩
theorem Kt.back {k : Bool → Prop} {b : Bool} {H' : Hp} (i1 : B.M.I G1 H1) (a : Gr B.M.W G H G1 H1) (h : Kt B G1 H1 k b H') : Kt B G H k b H' := by
  obtain ⟨G', g, j, q⟩ := h
  exact ⟨G', a.trans i1 g, j, q⟩
theorem Ka.back {k : List D → Prop} {vs : List V} {H' : Hp} (i1 : B.M.I G1 H1) (a : Gr B.M.W G H G1 H1) (h : Ka B G1 H1 k vs H') : Ka B G H k vs H' := by
  obtain ⟨d, G', g, j, r, q⟩ := h
  exact ⟨d, G', a.trans i1 g, j, r, q⟩
/-- a value without the heap -/
theorem Kd.val (g : Same G H) (i : B.M.I G H) {v : V} {d : D} (r : Rep B.X.K B.S G v d) (h : k d) : Kd B G H k v H := ⟨d, G, .refl g, i, r, h⟩
/-- a new object -/
theorem Kd.new (g : Same G H) (i : B.M.I G H) {p : Addr} {o : HO} {d : D} (n : H p = none) (t : Top B.X.K B.S G o d) (h : k d) : Kd B G H k (.ref p) (upd H p o) := by
  obtain ⟨a, j⟩ := (Gr.new (o := o) g n).up i
  exact ⟨d, _, a, j, .obj upd_same (t.mono a.g), h⟩
theorem Kd.newT (g : Same G H) (i : B.M.I G H) {p : Addr} {xs : List V} {ds : List D} (n : H p = none) (t : RepAll B.X.K B.S G xs ds) (h : k (.tup ds)) : Kd B G H k (.ref p) (upd H p (.tup xs)) := by
  obtain ⟨a, j⟩ := (Gr.new (o := .tup xs) g n).up i
  exact ⟨_, _, a, j, .tup (SqT.of upd_same) (t.mono a.g), h⟩
end
end Fz
namespace Fz
open PySem PySem.Spec PyProof.Rows L2
section
variable {B : Bx} {ρ : List En} {a b c e : Expr} {es : List Expr} {k : D → Prop} {x y : Str} {pos p p' : Pos}
/-! ### names, constants -/
theorem tk_v (i : Nat) {d : D} (hr : ρ[i]? = some (.val d)) (h : k d) (hN : B.X.N[i]? = some x := by rfl) (hv : Vis B.X.env.scope x := by first | exact Or.inl rfl | exact Or.inr (Or.inl rfl) | exact Or.inr (Or.inr rfl))
    (hd : (x == ("__debug__" : Str)) = false := by decide) (hcd : (x == ("__classdict__" : Str)) = false := by decide) : Tk B ρ (.Name x pos) k := Tk.of fun σ H G s => by
  obtain ⟨v, e, r⟩ := s.va i d hr
  exact ⟨_, pe_var hN hv hd hcd, v, e, .now s r h⟩
theorem tk_i {i : Int} {j} (h : k (.int i)) : Tk B ρ (.Constant (.int i) j pos) k := Tk.of fun σ H G s => ⟨_, pe_int, Kd.now s (.int i) h⟩
theorem tk_s {i : Str} {j} (h : k (.str i)) : Tk B ρ (.Constant (.str i) j pos) k := Tk.of fun σ H G s => ⟨_, pe_str, Kd.now s (.str i) h⟩
theorem tk_b {i : Bool} {j} (h : k (.bl i)) : Tk B ρ (.Constant (.bool i) j pos) k := Tk.of fun σ H G s => ⟨_, pe_bl, Kd.now s (.bl i) h⟩
theorem tk_n {j} (h : k .non) : Tk B ρ (.Constant .none j pos) k := Tk.of fun σ H G s => ⟨_, pe_non, Kd.now s .non h⟩
/-- a name of the module -/
theorem tk_g {u : Value} {v : V} {d : D} (hm : B.X.mg x = some u) (r : RelV v u) (hr : ∀ G, Rep B.X.K B.S G v d) (h : k d) (hg : Gl B.X x := by rfl) (hd : (x == ("__debug__" : Str)) = false := by decide) : Tk B ρ (.Name x pos) k :=
  Tk.of fun σ H G s => ⟨_, pe_glob hg hm r hd, Kd.now s (hr G) h⟩

/-! ### arguments -/
theorem ta_nil {k : List D → Prop} (h : k []) : Ta B ρ [] k := Ta.of fun σ H G s => ⟨_, pa_nil, [], G, .refl s.gr.s, s.inv, .nil, h⟩
theorem ta_cons {k : List D → Prop} (h : Tk B ρ e fun d => Ta B ρ es fun ds => k (d :: ds)) (hs : starEach (e :: es) B.X.env = (false, eval e B.X.env) :: starEach es B.X.env := by rfl) : Ta B ρ (e :: es) k := Ta.of fun σ H G s =>
  ⟨_, pa_cons pe_W pa_W hs, h.te s fun v d G1 H1 g1 i1 r1 h1 => h1.ta (s.step g1 i1) fun vs ds G2 H2 g2 i2 r2 h2 => ⟨d :: ds, G2, g1.trans i1 g2, i2, .cons (r1.mono g2.g) r2, h2⟩⟩

/-! ### operations by values -/
/-- f of two values: o says what is asked and what comes -/
def OpD (B : Bx) (f : Value → Value → Sem Value) (o : D → D → (D → Prop) → Prop) : Prop :=
  ∀ (x y : D) (k : D → Prop), o x y k → ∀ (v w : V) (G H : Hp), Same G H → B.M.I G H → Rep B.X.K B.S G v x → Rep B.X.K B.S G w y → ∀ pins σ s, Inv B.X pins σ H s → ∀ v' w', RelV v v' → RelV w w' →
    wpAny (model B.X.prog B.X.w) B.X.A (f v' w') (EP B.X pins σ (Kd B G H k)) B.X.xe s
theorem tk_bin {op : Operator} {o : D → D → (D → Prop) → Prop} (ho : OpD B (binaryOp op) o) (h : Tk B ρ a fun x => Tk B ρ b fun y => o x y k) : Tk B ρ (.BinOp a op b pos) k := fun σ H G s pins s0 I => by
  refine wpAny_BinOp (thn (h σ H G s pins s0 I) fun u s1 ⟨v, H1, I1, rv, d, G1, g1, i1, r1, h1⟩ => ?_)
  have s' := s.step g1 i1
  refine thn (h1 σ H1 G1 s' pins s1 I1) fun u' s2 ⟨v', H2, I2, rv', d', G2, g2, i2, r2, h2⟩ => ?_
  exact thn (ho d d' k h2 v v' G2 H2 (s'.step g2 i2).gr.s i2 (r1.mono g2.g) r2 pins σ s2 I2 u u' rv rv') fun z s3 ⟨v3, H3, I3, r3, q3⟩ => ⟨v3, H3, I3, r3, .back i2 (g1.trans i1 g2) q3⟩
theorem tk_cmp {op : CmpOp} {o : D → D → (D → Prop) → Prop} (ho : OpD B (compareOp op) o) (h : Tk B ρ a fun x => Tk B ρ b fun y => o x y k) (hm : behindInMarks op b = false := by first | exact nomark _ | rfl | with_unfolding_all rfl) :
    Tk B ρ (.Compare a [op] [b] pos) k := fun σ H G s pins s0 I => by
  refine wpAny_Compare1 (thn (h σ H G s pins s0 I) fun u s1 ⟨v, H1, I1, rv, d, G1, g1, i1, r1, h1⟩ => ?_) hm
  have s' := s.step g1 i1
  refine thn (h1 σ H1 G1 s' pins s1 I1) fun u' s2 ⟨v', H2, I2, rv', d', G2, g2, i2, r2, h2⟩ => ?_
  exact thn (ho d d' k h2 v v' G2 H2 (s'.step g2 i2).gr.s i2 (r1.mono g2.g) r2 pins σ s2 I2 u u' rv rv') fun z s3 ⟨v3, H3, I3, r3, q3⟩ => ⟨v3, H3, I3, r3, .back i2 (g1.trans i1 g2) q3⟩
/-- by a bool -/
def cB (c : Bool) (p q : Prop) : Prop := match c with
  | true => p
  | false => q
theorem cB_dec {c p q : Prop} [Decidable c] (h1 : c → p) (h2 : ¬ c → q) : cB (decide c) p q := by
  by_cases h : c
  · rw [decide_eq_true h]; exact h1 h
  · rw [decide_eq_false h]; exact h2 h
theorem cB_ndec {c p q : Prop} [Decidable c] (h1 : ¬ c → p) (h2 : c → q) : cB (!decide c) p q := by
  by_cases h : c
  · rw [decide_eq_true h]; exact h2 h
  · rw [decide_eq_false h]; exact h1 h
theorem cB_b {c : Bool} {p q : Prop} (h1 : c = true → p) (h2 : c = false → q) : cB c p q := by
  cases c with
  | true => exact h1 rfl
  | false => exact h2 rfl
theorem cB_t {c : Bool} {p q : Prop} (h : c = true) (h1 : p) : cB c p q := by
  subst h; exact h1
theorem cB_f {c : Bool} {p q : Prop} (h : c = false) (h1 : q) : cB c p q := by
  subst h; exact h1
/-- the test of a bool's datum -/
def kB (k : Bool → Prop) : D → Prop
  | .bl b => k b
  | _ => False
theorem tt_cmp {op : CmpOp} {o : D → D → (D → Prop) → Prop} {k : Bool → Prop} (ho : OpD B (compareOp op) o) (h : Tk B ρ a fun x => Tk B ρ b fun y => o x y (kB k)) (hm : behindInMarks op b = false := by first | exact nomark _ | rfl | with_unfolding_all rfl) :
    Tt B ρ (.Compare a [op] [b] pos) k := fun σ H G s pins s0 I => by
  refine wpAny_isTrue_Compare1 (thn (h σ H G s pins s0 I) fun u s1 ⟨v, H1, I1, rv, d, G1, g1, i1, r1, h1⟩ => ?_) hm
  have s' := s.step g1 i1
  refine thn (h1 σ H1 G1 s' pins s1 I1) fun u' s2 ⟨v', H2, I2, rv', d', G2, g2, i2, r2, h2⟩ => ?_
  refine thn (ho d d' _ h2 v v' G2 H2 (s'.step g2 i2).gr.s i2 (r1.mono g2.g) r2 pins σ s2 I2 u u' rv rv') fun z s3 ⟨v3, H3, I3, r3, d3, G3, g3, i3, rp3, q3⟩ => ?_
  cases d3 with
  | bl c =>
    have e := rp3.blI
    subst e
    cases r3
    exact wpAny_truthy_bool ⟨H3, I3, G3, (g1.trans i1 g2).trans i2 g3, i3, q3⟩
  | _ => exact q3.elim
/-- a value that is a bool, as a test -/
theorem tt_val {k : Bool → Prop} (h : Tk B ρ e (kB k)) (he : ∀ whole, isTrue e B.X.env whole = (do let v ← whole; standAt e.pos; holding [v] (truthy v)) := by intro _; rfl) : Tt B ρ e k := Tt.of fun σ H G s =>
  ⟨_, pt_val pe_W he, h.te s fun v d G1 H1 g1 i1 r1 h1 => by
    cases d with
    | bl c => exact ⟨c, r1.blI, G1, g1, i1, h1⟩
    | _ => exact h1.elim⟩
theorem tt_and1 {k : Bool → Prop} (h : Tt B ρ a k) : Tt B ρ (.BoolOp .And [a] pos) k := Tt.of fun σ H G s => ⟨_, (pw_and1 pt_W).pt, h σ H G s⟩
theorem tt_or1 {k : Bool → Prop} (h : Tt B ρ a k) : Tt B ρ (.BoolOp .Or [a] pos) k := Tt.of fun σ H G s => ⟨_, (pw_or1 pt_W).pt, h σ H G s⟩
/-- and, or as tests -/
def tWW (X : Cx) (e : Expr) : TT := fun σ H Q => ∀ wh pins s, Inv X pins σ H s → wpAny (model X.prog X.w) X.A (isTrue e X.env wh) (TP X pins σ Q) X.xe s
def Tw (B : Bx) (ρ : List En) (e : Expr) (k : Bool → Prop) : Prop := ∀ σ H G, StOk B ρ σ H G → tWW B.X e σ H (Kt B G H k)
theorem Tw.tt {k : Bool → Prop} (h : Tw B ρ e k) : Tt B ρ e k := fun σ H G s pins s0 I => h σ H G s _ pins s0 I
theorem tw_and1 {k : Bool → Prop} (h : Tt B ρ a k) : Tw B ρ (.BoolOp .And [a] pos) k := fun σ H G s wh pins s0 I => (pw_and1 pt_W).run wh pins s0 σ H _ I (h σ H G s)
theorem tw_or1 {k : Bool → Prop} (h : Tt B ρ a k) : Tw B ρ (.BoolOp .Or [a] pos) k := fun σ H G s wh pins s0 I => (pw_or1 pt_W).run wh pins s0 σ H _ I (h σ H G s)
theorem pw_W {X : Cx} : PW X e (tWW X e) := ⟨fun wh pins s _ _ _ I h => h wh pins s I⟩
theorem Tw.te {k : Bool → Prop} {σ : L2.St} {H G : Hp} (h : Tw B ρ e k) (s : StOk B ρ σ H G) {Q : Bool → Hp → Prop} (q : ∀ b G' H', Gr B.M.W G H G' H' → B.M.I G' H' → k b → Q b H') : tWW B.X e σ H Q := fun wh pins s0 I =>
  thn (h σ H G s wh pins s0 I) fun b _ ⟨H', I', G', g, i, kd⟩ => ⟨H', I', q b G' H' g i kd⟩
theorem tw_and {rest : List Expr} {k : Bool → Prop} (h : Tt B ρ a fun c => cB c (Tw B ρ (.BoolOp .And (b :: rest) pos) k) (k false)) : Tw B ρ (.BoolOp .And (a :: b :: rest) pos) k := fun σ H G s wh pins s0 I => by
  refine (pw_and pt_W pw_W).run wh pins s0 σ H _ I (h.tt s fun c G1 H1 g1 i1 h1 => ?_)
  cases c with
  | true =>
    rw [if_pos rfl]
    exact Tw.te h1 (s.step g1 i1) fun c2 G2 H2 g2 i2 h2 => ⟨G2, g1.trans i1 g2, i2, h2⟩
  | false =>
    rw [if_neg Bool.false_ne_true]
    exact ⟨G1, g1, i1, h1⟩
theorem tw_or {rest : List Expr} {k : Bool → Prop} (h : Tt B ρ a fun c => cB c (k true) (Tw B ρ (.BoolOp .Or (b :: rest) pos) k)) : Tw B ρ (.BoolOp .Or (a :: b :: rest) pos) k := fun σ H G s wh pins s0 I => by
  refine (pw_or pt_W pw_W).run wh pins s0 σ H _ I (h.tt s fun c G1 H1 g1 i1 h1 => ?_)
  cases c with
  | false =>
    rw [if_neg Bool.false_ne_true]
    exact Tw.te h1 (s.step g1 i1) fun c2 G2 H2 g2 i2 h2 => ⟨G2, g1.trans i1 g2, i2, h2⟩
  | true =>
    rw [if_pos rfl]
    exact ⟨G1, g1, i1, h1⟩
theorem tt_not {k : Bool → Prop} (h : Tt B ρ a fun c => k (!c)) : Tt B ρ (.UnaryOp .Not a pos) k := Tt.of fun σ H G s =>
  ⟨_, pt_not pt_W, h.tt s fun c G1 H1 g1 i1 h1 => ⟨G1, g1, i1, h1⟩⟩
/-- .. as values -/
def kI (f : Bool → Prop) : D → Prop
  | .bl b => f b
  | _ => False
theorem tk_one {op} (h : Tk B ρ a k) : Tk B ρ (.BoolOp op [a] pos) k := Tk.of fun σ H G s => ⟨_, pe_one pe_W, h σ H G s⟩
theorem tk_and {rest : List Expr} (h : Tk B ρ a (kB fun c => cB c (Tk B ρ (.BoolOp .And (b :: rest) pos) k) (k (.bl false)))) : Tk B ρ (.BoolOp .And (a :: b :: rest) pos) k := Tk.of fun σ H G s =>
  ⟨_, pe_and pe_W pe_W, h.te s fun v d G1 H1 g1 i1 r1 h1 => by
    cases d with
    | bl c =>
      refine ⟨c, r1.blI, ?_⟩
      cases c with
      | true =>
        have h2 : Tk B ρ (.BoolOp .And (b :: rest) pos) k := h1
        rw [if_pos rfl]
        exact h2.te (s.step g1 i1) fun v2 d2 G2 H2 g2 i2 r2 h3 => ⟨d2, G2, g1.trans i1 g2, i2, r2, h3⟩
      | false =>
        have h2 : k (.bl false) := h1
        rw [if_neg Bool.false_ne_true]
        exact ⟨_, G1, g1, i1, .bl false, h2⟩
    | _ => exact h1.elim⟩
theorem tk_or {rest : List Expr} (h : Tk B ρ a (kB fun c => cB c (k (.bl true)) (Tk B ρ (.BoolOp .Or (b :: rest) pos) k))) : Tk B ρ (.BoolOp .Or (a :: b :: rest) pos) k := Tk.of fun σ H G s =>
  ⟨_, pe_or pe_W pe_W, h.te s fun v d G1 H1 g1 i1 r1 h1 => by
    cases d with
    | bl c =>
      refine ⟨c, r1.blI, ?_⟩
      cases c with
      | false =>
        have h2 : Tk B ρ (.BoolOp .Or (b :: rest) pos) k := h1
        rw [if_neg Bool.false_ne_true]
        exact h2.te (s.step g1 i1) fun v2 d2 G2 H2 g2 i2 r2 h3 => ⟨d2, G2, g1.trans i1 g2, i2, r2, h3⟩
      | true =>
        have h2 : k (.bl true) := h1
        rw [if_pos rfl]
        exact ⟨_, G1, g1, i1, .bl true, h2⟩
    | _ => exact h1.elim⟩
theorem tk_not (h : Tk B ρ a (kB fun c => k (.bl !c))) : Tk B ρ (.UnaryOp .Not a pos) k := Tk.of fun σ H G s =>
  ⟨_, pe_not pe_W, h.te s fun v d G1 H1 g1 i1 r1 h1 => by
    cases d with
    | bl c => exact ⟨c, r1.blI, _, G1, g1, i1, .bl _, h1⟩
    | _ => exact h1.elim⟩
theorem tk_if (h : Tt B ρ c fun t => cB t (Tk B ρ a k) (Tk B ρ b k)) : Tk B ρ (.IfExp c a b pos) k := Tk.of fun σ H G s =>
  ⟨_, pe_ifExp pt_W pe_W pe_W, h.tt s fun t G1 H1 g1 i1 h1 => by
    cases t with
    | true =>
      rw [if_pos rfl]
      exact Tk.te h1 (s.step g1 i1) fun v2 d2 G2 H2 g2 i2 r2 h3 => ⟨d2, G2, g1.trans i1 g2, i2, r2, h3⟩
    | false =>
      rw [if_neg Bool.false_ne_true]
      exact Tk.te h1 (s.step g1 i1) fun v2 d2 G2 H2 g2 i2 r2 h3 => ⟨d2, G2, g1.trans i1 g2, i2, r2, h3⟩⟩

/-! ### the operators -/
def oI (f : Int → Int → D) : D → D → (D → Prop) → Prop := fun x y k => match x, y with
  | .int i, .int j => k (f i j)
  | _, _ => False
def oIC (C : Int → Int → Prop) (f : Int → Int → D) : D → D → (D → Prop) → Prop := fun x y k => match x, y with
  | .int i, .int j => C i j ∧ k (f i j)
  | _, _ => False
theorem OpD.int {f : Value → Value → Sem Value} {g : Int → Int → V} {g' : Int → Int → D} (ho : OpR B.X f (rI0 g)) (hg : ∀ G i j, Rep B.X.K B.S G (g i j) (g' i j)) : OpD B f (oI g') := fun x y k h v w G H e i rx ry pins σ s I v' w' r1 r2 => by
  cases x with
  | int i1 =>
    cases y with
    | int j1 =>
      have e1 := rx.intI
      have e2 := ry.intI
      subst e1 e2
      exact ho pins s σ H _ _ v' w' _ I r1 r2 ⟨i1, j1, rfl, rfl, .val e i (hg G i1 j1) h⟩
    | _ => exact h.elim
  | _ => exact h.elim
theorem OpD.intC {f : Value → Value → Sem Value} {C : Int → Int → Prop} {g : Int → Int → V} {g' : Int → Int → D} (ho : OpR B.X f (rI C g)) (hg : ∀ G i j, Rep B.X.K B.S G (g i j) (g' i j)) : OpD B f (oIC C g') := fun x y k h v w G H e i rx ry pins σ s I v' w' r1 r2 => by
  cases x with
  | int i1 =>
    cases y with
    | int j1 =>
      have e1 := rx.intI
      have e2 := ry.intI
      subst e1 e2
      exact ho pins s σ H _ _ v' w' _ I r1 r2 ⟨i1, j1, rfl, rfl, h.1, .val e i (hg G i1 j1) h.2⟩
    | _ => exact h.elim
  | _ => exact h.elim
abbrev oLt := oI fun i j => .bl (decide (i < j))
abbrev oLe := oI fun i j => .bl (decide (i ≤ j))
abbrev oGt := oI fun i j => .bl (decide (j < i))
abbrev oGe := oI fun i j => .bl (decide (j ≤ i))
theorem d_lt : OpD B (compareOp .Lt) oLt := .int op_lt fun _ _ _ => .bl _
theorem d_le : OpD B (compareOp .LtE) oLe := .int op_le fun _ _ _ => .bl _
theorem d_gt : OpD B (compareOp .Gt) oGt := .int op_gt fun _ _ _ => .bl _
theorem d_ge : OpD B (compareOp .GtE) oGe := .int op_ge fun _ _ _ => .bl _
theorem d_subI : OpD B (binaryOp .Sub) (oI fun i j => .int (i - j)) := .int op_sub fun _ _ _ => .int _
theorem d_fdiv : OpD B (binaryOp .FloorDiv) (oIC CDivW fun i j => .int (i / j)) := .intC op_fdivW fun _ _ _ => .int _
theorem d_mod : OpD B (binaryOp .Mod) (oIC (fun _ j => 0 < j) fun i j => .int (i % j)) := .intC op_mod fun _ _ _ => .int _
theorem d_pow : OpD B (binaryOp .Pow) (oIC CPow fun i j => .int (i ^ j.toNat)) := .intC op_pow fun _ _ _ => .int _
/-- + -/
def oAdd : D → D → (D → Prop) → Prop := fun x y k => match x, y with
  | .int i, .int j => k (.int (i + j))
  | .str i, .str j => i.length + j.length ≤ sizeLine ∧ k (.str (i ++ j))
  | .lst xs, .lst ys => xs.length + ys.length ≤ sizeLine ∧ k (.lst (xs ++ ys))
  | .tup xs, .tup ys => xs ≠ [] ∧ xs.length + ys.length ≤ sizeLine ∧ k (.tup (xs ++ ys))
  | _, _ => False
theorem d_add : OpD B (binaryOp .Add) oAdd := fun x y k h v w G H e i rx ry pins σ s I v' w' r1 r2 => by
  unfold oAdd at h
  split at h
  · have e1 := rx.intI
    have e2 := ry.intI
    subst e1 e2
    exact op_add pins s σ H _ _ v' w' _ I r1 r2 ⟨_, _, rfl, rfl, .val e i (.int _) h⟩
  · have e1 := rx.strI
    have e2 := ry.strI
    subst e1 e2
    exact op_add_str pins s σ H _ _ v' w' _ I r1 r2 ⟨_, _, rfl, rfl, h.1, .val e i (.str _) h.2⟩
  · obtain ⟨a, xs, rfl, ga, ra⟩ := rx.lstI
    obtain ⟨b, ys, rfl, gb, rb⟩ := ry.lstI
    exact op_cat pins s σ H _ _ v' w' _ I r1 r2 ⟨a, b, xs, ys, rfl, rfl, e _ _ ga, e _ _ gb, by rw [ra.length, rb.length]; exact h.1, fun p n => .new e i n (.lst (ra.append rb)) h.2⟩
  · obtain ⟨a, xs, rfl, ga, ra⟩ := rx.tupI
    obtain ⟨b, ys, rfl, gb, rb⟩ := ry.tupI
    refine op_catT pins s σ H _ _ v' w' _ I r1 r2 ⟨a, b, xs, ys, rfl, rfl, same_seqT e ga, same_seqT e gb, fun z => ?_, by rw [ra.length, rb.length]; exact h.2.1, fun z => ?_, fun z p n => .newT e i n (ra.append rb) h.2.2⟩
    · subst z
      cases ra
      exact h.1 rfl
    · subst z
      cases rb
      refine .val e i rx ?_
      have h3 := h.2.2
      rw [List.append_nil] at h3
      exact h3
  · exact h.elim
theorem d_sub : OpD B (binaryOp .Sub) (oI fun i j => .int (i - j)) := d_subI
/-- * -/
def oMul : D → D → (D → Prop) → Prop := fun x y k => match x, y with
  | .int i, .int j => CMulW i j ∧ k (.int (i * j))
  | .lst xs, .int j => -(2 ^ 63) ≤ j ∧ j < 2 ^ 63 ∧ xs.length * j.toNat ≤ sizeLine ∧ k (.lst (List.replicate j.toNat xs).flatten)
  | _, _ => False
theorem rep_flatten {K : PySem.W.Frag} {S : Addr} {G : Hp} {xs : List V} {ds : List D} (r : RepAll K S G xs ds) : ∀ n : Nat, RepAll K S G (List.replicate n xs).flatten (List.replicate n ds).flatten
  | 0 => .nil
  | n + 1 => by
    rw [List.replicate_succ, List.replicate_succ, List.flatten_cons, List.flatten_cons]
    exact r.append (rep_flatten r n)
theorem d_mul : OpD B (binaryOp .Mult) oMul := fun x y k h v w G H e i rx ry pins σ s I v' w' r1 r2 => by
  unfold oMul at h
  split at h
  · have e1 := rx.intI
    have e2 := ry.intI
    subst e1 e2
    exact op_mulW pins s σ H _ _ v' w' _ I r1 r2 ⟨_, _, rfl, rfl, h.1, .val e i (.int _) h.2⟩
  · obtain ⟨a, xs, rfl, ga, ra⟩ := rx.lstI
    have e2 := ry.intI
    subst e2
    exact op_rep pins s σ H _ _ v' w' _ I r1 r2 ⟨a, _, xs, rfl, rfl, e _ _ ga, h.1, h.2.1, by rw [ra.length]; exact h.2.2.1, fun p n => .new e i n (.lst (rep_flatten ra _)) h.2.2.2⟩
  · exact h.elim
/-- unary minus -/
theorem tk_neg (h : Tk B ρ a fun x => match x with | .int i => k (.int (-i)) | _ => False) : Tk B ρ (.UnaryOp .USub a pos) k := Tk.of fun σ H G s =>
  ⟨_, pe_un un_neg pe_W, h.te s fun v d G1 H1 g1 i1 r1 h1 => by
    cases d with
    | int i => exact ⟨i, r1.intI, _, G1, g1, i1, .int _, h1⟩
    | _ => exact h1.elim⟩
/-! ### displays -/
theorem tk_tup {x1} (h : Ta B ρ es fun ds => ds.length ≤ sizeLine ∧ k (.tup ds)) : Tk B ρ (.Tuple es x1 pos) k := Tk.of fun σ H G s =>
  ⟨_, pe_tup pa_W, h.ta s fun vs ds G1 H1 g1 i1 r1 h1 => ⟨by rw [r1.length]; exact h1.1, fun p n => .back i1 g1 (.newT (s.step g1 i1).gr.s i1 n r1 h1.2)⟩⟩
theorem tk_lst (h : Ta B ρ es fun ds => ds.length ≤ sizeLine ∧ k (.lst ds)) : Tk B ρ (.List es pos) k := Tk.of fun σ H G s =>
  ⟨_, pe_lst pa_W, h.ta s fun vs ds G1 H1 g1 i1 r1 h1 => ⟨by rw [r1.length]; exact h1.1, fun p n => .back i1 g1 (.new (s.step g1 i1).gr.s i1 n (.lst r1) h1.2)⟩⟩
end
end Fz
namespace Fz
open PySem PySem.Spec PyProof.Rows L2
/-! ### == of data -/
mutual
def py : D → PyData
  | .non => .none | .bl b => .bool b | .int i => .int i | .str x => .str x | .ref _ => .none
  | .tup ds => .tuple (pyL ds) | .lst ds => .list (pyL ds) | .rdl ds => .list (pyL ds) | .dct _ _ => .none | .ins _ _ _ => .none | .ndc _ _ _ => .none
def pyL : List D → List PyData
  | [] => []
  | d :: ds => py d :: pyL ds
end
/-- plain data, nested at most n deep -/
def dOk : Nat → D → Bool
  | _, .non => true
  | _, .bl _ => true
  | _, .int _ => true
  | _, .str x => PyData.strOk x
  | n + 1, .tup ds => ds.all (dOk n)
  | n + 1, .lst ds => ds.all (dOk n)
  | n + 1, .rdl ds => ds.all (dOk n)
  | _, _ => false
def deq (x y : D) : Bool := PyData.eqv (py x) (py y)
section
variable {K : PySem.W.Frag} {S : Addr} {G H : Hp}
theorem rep_dpAll {P : D → Bool} (e : Same G H) (ih : ∀ {v : V} {d : D}, P d = true → Rep K S G v d → Dp K H v (py d)) : ∀ {vs : List V} {ds : List D}, ds.all P = true → RepAll K S G vs ds → DpAll K H vs (pyL ds)
  | _, [], _, r => by cases r; rw [pyL]; exact .nil
  | _, d :: ds, h, r => by
    cases r with
    | cons r1 r2 =>
      rw [List.all_cons, Bool.and_eq_true] at h
      rw [pyL]
      exact .cons (ih h.1 r1) (rep_dpAll e ih h.2 r2)
theorem rep_dp (e : Same G H) : ∀ (n : Nat) {v : V} {d : D}, dOk n d = true → Rep K S G v d → Dp K H v (py d)
  | n, _, .non, _, r => by rw [r.nonI, py]; exact .non
  | n, _, .bl b, _, r => by rw [r.blI, py]; exact .bl b
  | n, _, .int i, _, r => by rw [r.intI, py]; exact .int i
  | n, _, .str x, _, r => by rw [r.strI, py]; exact .str x
  | n + 1, _, .tup ds, h, r => by
    obtain ⟨a, xs, rfl, hs, ra⟩ := r.tupI
    rw [py]
    exact .tup (same_seqT e hs) (rep_dpAll e (rep_dp e n) h ra)
  | n + 1, _, .lst ds, h, r => by
    obtain ⟨a, xs, rfl, hs, ra⟩ := r.lstI
    rw [py]
    exact .lst (SqL.of (e _ _ hs)) (rep_dpAll e (rep_dp e n) h ra)
  | n + 1, _, .rdl ds, h, r => by
    obtain ⟨a, xs, rfl, hs, ra⟩ := r.rdlI
    rw [py]
    exact .lst (Same.seq e hs) (rep_dpAll e (rep_dp e n) h ra)
  | 0, _, .tup _, h, _ => by cases h
  | 0, _, .lst _, h, _ => by cases h
  | 0, _, .rdl _, h, _ => by cases h
  | n, _, .ref _, h, _ => by cases n <;> cases h
  | n, _, .dct _ _, h, _ => by cases n <;> cases h
  | n, _, .ins _ _ _, h, _ => by cases n <;> cases h
  | n, _, .ndc _ _ _, h, _ => by cases n <;> cases h
end
theorem dOk_layAll {P : D → Bool} {n : Nat} (ih : ∀ {d : D}, P d = true → (py d).canLay0 = true ∧ (py d).depth ≤ n) : ∀ {ds : List D}, ds.all P = true → PyData.canLayAll0 (pyL ds) = true ∧ PyData.depthAll (pyL ds) ≤ n
  | [], _ => by rw [pyL]; exact ⟨rfl, Nat.zero_le _⟩
  | d :: ds, h => by
    rw [List.all_cons, Bool.and_eq_true] at h
    obtain ⟨q1, q2⟩ := ih h.1
    obtain ⟨q3, q4⟩ := dOk_layAll ih h.2
    rw [pyL, PyData.canLayAll0, PyData.depthAll, q1, q3]
    exact ⟨rfl, Nat.max_le.mpr ⟨q2, q4⟩⟩
theorem dOk_lay : ∀ (n : Nat) {d : D}, dOk n d = true → (py d).canLay0 = true ∧ (py d).depth ≤ n
  | n, .non, _ => by rw [py]; exact ⟨rfl, Nat.zero_le _⟩
  | n, .bl b, _ => by rw [py]; exact ⟨rfl, Nat.zero_le _⟩
  | n, .int i, _ => by rw [py]; exact ⟨rfl, Nat.zero_le _⟩
  | n, .str x, h => by
    rw [py]
    have h' : PyData.strOk x = true := by cases n <;> exact h
    exact ⟨by simpa [PyData.canLay0] using h', Nat.zero_le _⟩
  | n + 1, .tup ds, h => by
    have q := dOk_layAll (dOk_lay n) (ds := ds) h
    rw [py, PyData.canLay0, PyData.depth]
    exact ⟨q.1, Nat.succ_le_succ q.2⟩
  | n + 1, .lst ds, h => by
    have q := dOk_layAll (dOk_lay n) (ds := ds) h
    rw [py, PyData.canLay0, PyData.depth]
    exact ⟨q.1, Nat.succ_le_succ q.2⟩
  | n + 1, .rdl ds, h => by
    have q := dOk_layAll (dOk_lay n) (ds := ds) h
    rw [py, PyData.canLay0, PyData.depth]
    exact ⟨q.1, Nat.succ_le_succ q.2⟩
  | 0, .tup _, h => by cases h
  | 0, .lst _, h => by cases h
  | 0, .rdl _, h => by cases h
  | n, .ref _, h => by cases n <;> cases h
  | n, .dct _ _, h => by cases n <;> cases h
  | n, .ins _ _ _, h => by cases n <;> cases h
  | n, .ndc _ _ _, h => by cases n <;> cases h
theorem dOk_shaped {n : Nat} {d : D} (hn : n ≤ 64) (h : dOk n d = true) : SeqAt.shaped (py d) = true := by
  obtain ⟨q1, q2⟩ := dOk_lay n h
  unfold SeqAt.shaped
  rw [q1, decide_eq_true (Nat.le_trans q2 hn)]
  rfl
def oEq : D → D → (D → Prop) → Prop := fun x y k => dOk 8 x = true ∧ dOk 8 y = true ∧ k (.bl (deq x y))
def oNe : D → D → (D → Prop) → Prop := fun x y k => dOk 8 x = true ∧ dOk 8 y = true ∧ k (.bl (!deq x y))
section
variable {B : Bx} {ρ : List En} {a b c e : Expr} {es : List Expr} {k : D → Prop} {x y : Str} {pos p p' : Pos}
theorem d_eq (hu : B.X.A.units + 64 < cLine) : OpD B (compareOp .Eq) oEq := fun x y k h v w G H e i rx ry pins σ s I v' w' r1 r2 =>
  op_eqD hu pins s σ H v w v' w' _ I r1 r2 ⟨py x, py y, rep_dp e 8 h.1 rx, rep_dp e 8 h.2.1 ry, dOk_shaped (by decide) h.1, dOk_shaped (by decide) h.2.1, .val e i (.bl _) h.2.2⟩
theorem d_ne (hu : B.X.A.units + 64 < cLine) : OpD B (compareOp .NotEq) oNe := fun x y k h v w G H e i rx ry pins σ s I v' w' r1 r2 =>
  op_neD hu pins s σ H v w v' w' _ I r1 r2 ⟨py x, py y, rep_dp e 8 h.1 rx, rep_dp e 8 h.2.1 ry, dOk_shaped (by decide) h.1, dOk_shaped (by decide) h.2.1, .val e i (.bl _) h.2.2⟩
/-- is None -/
def isN : D → Bool
  | .non => true
  | _ => false
theorem rep_isN {K : PySem.W.Frag} {S : Addr} {G : Hp} {v : V} {d : D} (r : Rep K S G v d) : decide (v = .non) = isN d := by
  cases r <;> first | rfl | exact decide_eq_false (fun z => nomatch z) | skip
  rename_i o h t
  cases t <;> exact decide_eq_false (fun z => nomatch z)
def oIs : D → D → (D → Prop) → Prop := fun x y k => match y with
  | .non => k (.bl (isN x))
  | _ => False
def oIsNot : D → D → (D → Prop) → Prop := fun x y k => match y with
  | .non => k (.bl (!isN x))
  | _ => False
theorem d_is : OpD B (compareOp .Is) oIs := fun x y k h v w G H e i rx ry pins σ s I v' w' r1 r2 => by
  unfold oIs at h
  split at h
  · have e2 := ry.nonI
    subst e2
    exact op_isN pins s σ H v _ v' w' _ I r1 r2 ⟨rfl, by rw [rep_isN rx]; exact .val e i (.bl _) h⟩
  · exact h.elim
theorem d_isnot : OpD B (compareOp .IsNot) oIsNot := fun x y k h v w G H e i rx ry pins σ s I v' w' r1 r2 => by
  unfold oIsNot at h
  split at h
  · have e2 := ry.nonI
    subst e2
    exact op_notN pins s σ H v _ v' w' _ I r1 r2 ⟨rfl, by rw [rep_isN rx]; exact .val e i (.bl _) h⟩
  · exact h.elim

/-! ### a[i] -/
def oIx : D → D → (D → Prop) → Prop := fun x y k => match x, y with
  | .tup ds, .int i => ∃ d, atI ds i = some d ∧ k d
  | .lst ds, .int i => ∃ d, atI ds i = some d ∧ k d
  | .rdl ds, .int i => ∃ d, atI ds i = some d ∧ k d
  | _, _ => False
theorem atI_rep {K : PySem.W.Frag} {S : Addr} {G : Hp} {vs : List V} {ds : List D} {i : Int} {d : D} (r : RepAll K S G vs ds) (h : atI ds i = some d) : ∃ v, atI vs i = some v ∧ Rep K S G v d := by
  unfold atI at h ⊢
  rw [r.length]
  cases e : ixN ds.length i with
  | none => rw [e] at h; cases h
  | some j =>
    rw [e] at h
    exact r.get h
theorem tk_ix (h : Tk B ρ a fun x => Tk B ρ b fun y => oIx x y k) (hs : PlainIx b := by exact fun _ _ => rfl) : Tk B ρ (.Subscript a b pos) k := Tk.of fun σ H G s =>
  ⟨_, pe_ix ix_seq pe_W pe_W hs, h.te s fun v d G1 H1 g1 i1 r1 h1 => Tk.te h1 (s.step g1 i1) fun v2 d2 G2 H2 g2 i2 r2 h2 => by
    have s2 := (s.step g1 i1).step g2 i2
    have r1' := r1.mono g2.g
    unfold oIx at h2
    split at h2
    · obtain ⟨d', he, hk⟩ := h2
      obtain ⟨p, xs, rfl, hx, ra⟩ := r1'.tupI
      obtain ⟨z, hz, rz⟩ := atI_rep ra he
      have e2 := r2.intI
      subst e2
      exact .inr (.inl ⟨p, xs, _, z, rfl, rfl, same_seqT s2.gr.s hx, hz, .back i2 (g1.trans i1 g2) (.val s2.gr.s i2 rz hk)⟩)
    · obtain ⟨d', he, hk⟩ := h2
      obtain ⟨p, xs, rfl, hx, ra⟩ := r1'.lstI
      obtain ⟨z, hz, rz⟩ := atI_rep ra he
      have e2 := r2.intI
      subst e2
      exact .inl ⟨p, xs, _, z, rfl, rfl, SqL.of (s2.gr.s _ _ hx), hz, .back i2 (g1.trans i1 g2) (.val s2.gr.s i2 rz hk)⟩
    · obtain ⟨d', he, hk⟩ := h2
      obtain ⟨p, xs, rfl, hx, ra⟩ := r1'.rdlI
      obtain ⟨z, hz, rz⟩ := atI_rep ra he
      have e2 := r2.intI
      subst e2
      exact .inl ⟨p, xs, _, z, rfl, rfl, Same.seq s2.gr.s hx, hz, .back i2 (g1.trans i1 g2) (.val s2.gr.s i2 rz hk)⟩
    · exact h2.elim⟩
/-- a list that the def owns, at an index -/
theorem tk_ixO (j : Nat) {ds : List D} (hr : ρ[j]? = some (.own (.lst ds))) (h : Tk B ρ b fun y => oIx (.lst ds) y k) (hN : B.X.N[j]? = some x := by rfl) (hv : Vis B.X.env.scope x := by first | exact Or.inl rfl | exact Or.inr (Or.inl rfl) | exact Or.inr (Or.inr rfl))
    (hd : (x == ("__debug__" : Str)) = false := by decide) (hcd : (x == ("__classdict__" : Str)) = false := by decide) (hs : PlainIx b := by exact fun _ _ => rfl) : Tk B ρ (.Subscript (.Name x p) b pos) k := Tk.of fun σ H G s => by
  obtain ⟨q, o, e, hq, gq, h0, w, t, _⟩ := s.ow j _ _ hr
  refine ⟨_, pe_ix ix_list (pe_var hN hv hd hcd) pe_W hs, .ref q, e, h.te s fun v2 d2 G2 H2 g2 i2 r2 h2 => ?_⟩
  have s2 := s.step g2 i2
  unfold oIx at h2
  cases t with
  | lst ra =>
    cases d2 with
    | int i =>
      obtain ⟨d', he, hk⟩ := h2
      obtain ⟨z, hz, rz⟩ := atI_rep ra he
      have e2 := r2.intI
      subst e2
      exact ⟨q, _, _, z, rfl, rfl, SqL.of (g2.h _ _ w hq), hz, .back i2 g2 (.val s2.gr.s i2 (rz.mono g2.g) hk)⟩
    | _ => exact h2.elim

/-! ### an instance's fields -/
theorem lookup_at {f : Str} : ∀ {kvs : List (Str × V)} {i : Nat} {v : V}, (kvs.map (·.1)).Nodup → (kvs.map (·.1))[i]? = some f → (kvs.map (·.2))[i]? = some v → kvs.lookup f = some v
  | [], _, _, _, h, _ => by simp at h
  | (g, w) :: kvs, 0, v, _, h1, h2 => by
    have e1 : g = f := Option.some.inj h1
    have e2 : w = v := Option.some.inj h2
    subst e1 e2
    simp [List.lookup]
  | (g, w) :: kvs, i + 1, v, nd, h1, h2 => by
    rw [List.map_cons, List.nodup_cons] at nd
    have ne : (f == g) = false := by
      have hm : f ∈ kvs.map (·.1) := List.mem_of_getElem? h1
      have : f ≠ g := fun z => nd.1 (z ▸ hm)
      simpa using this
    rw [List.lookup_cons, ne]
    exact lookup_at nd.2 h1 h2
def kFld (C : Addr) (fs : List Str) (i : Nat) (k : D → Prop) : D → Prop := fun d => ∃ ds x, d = .ins C fs ds ∧ ds[i]? = some x ∧ k x
theorem tk_fld {C : Addr} {fs : List Str} {f : Str} (i : Nat) (hc : Cls B.X.K C) (hn : NoAttr B.X.K C f) (nd : fs.Nodup) (h : Tk B ρ e (kFld C fs i k)) (hf : fs[i]? = some f := by rfl) (hb : attributeBase e f B.X.env (eval e B.X.env) = eval e B.X.env := by rfl) : Tk B ρ (.Attribute e f pos) k := Tk.of fun σ H G s =>
  ⟨_, pe_fld pe_W hb, h.te s fun v d G1 H1 g1 i1 r1 h1 => by
    obtain ⟨ds, x, rfl, hx, hk⟩ := h1
    obtain ⟨a, dx, kvs, rfl, ha, e1, ra⟩ := r1.insI
    have s1 := s.step g1 i1
    obtain ⟨w, hw, rw'⟩ := ra.get hx
    exact ⟨a, C, dx, _, w, rfl, s1.gr.s _ _ ha, hc, hn, lookup_at (by rw [e1]; exact nd) (by rw [e1]; exact hf) hw, .back i1 g1 (.val s1.gr.s i1 rw' hk)⟩⟩
end

/-! ### calls of defs -/
/-- an exception's own dict, as data -/
def Xd (K : PySem.W.Frag) (S : Addr) (G : Hp) : Option Addr → List (Str × D) → Prop
  | none, fs => fs = []
  | some d, fs => ∃ vs, G d = some (.xd vs) ∧ vs.map (·.1) = fs.map (·.1) ∧ RepAll K S G (vs.map (·.2)) (fs.map (·.2))
/-- a promise: M the mode, C what is asked, A the arguments, R what comes, XR what is raised -/
def Spf (K : PySem.W.Frag) (S : Addr) {ι : Type} (M : ι → Md) (C : ι → Prop) (A : ι → List D) (R : ι → D → Prop) (XR : ι → Addr → List (Str × D) → Prop) : Sp := fun vs H Q E => ∃ i G, C i ∧ Same G H ∧ (M i).I G H ∧ RepAll K S G vs (A i) ∧
  (∀ v d G' H', Gr (M i).W G H G' H' → (M i).I G' H' → Rep K S G' v d → R i d → Q v H') ∧
  (∀ c fs od G' H', Gr (M i).W G H G' H' → (M i).I G' H' → Xd K S G' od fs → XR i c fs → E (.ref c) od H')
theorem passX0 {P : Program} {w : World} {X : Cx} : Passes (L2.CX P w) X E0 := fun _ _ _ _ _ _ _ c => by
  obtain ⟨_, _, _, _, _, _, _, _, _, _, _, _, z⟩ := c
  exact z.elim
section
variable {B : Bx} {ρ : List En} {a b c e : Expr} {es : List Expr} {k : D → Prop} {x y : Str} {pos p p' : Pos}
/-- a callee's mode within the caller's: none, or the same -/
def Sub (M N : Md) : Prop := M = pur ∨ M = N
theorem Sub.up {M N : Md} (h : Sub M N) {G H G' H' : Hp} (i : N.I G H) (a : Gr M.W G H G' H') (j : M.I G' H') : Gr N.W G H G' H' ∧ N.I G' H' := by
  rcases h with rfl | rfl
  · exact a.up i
  · exact ⟨a, j⟩
theorem Sub.inn {M N : Md} (h : Sub M N) {G H : Hp} (i : N.I G H) : M.I G H := by
  rcases h with rfl | rfl
  · trivial
  · exact i
theorem tk_call {ι : Type} {M : ι → Md} {C : ι → Prop} {A : ι → List D} {R : ι → D → Prop} {XR : ι → Addr → List (Str × D) → Prop} {n : Nat} {f : Addr} {fd : FuncData} {ps : List Str}
    (F : FnOk B.X.prog B.X.w B.X.K B.X.mg B.X.base (L2.CX B.X.prog B.X.w) n f fd ps (Spf B.X.K B.S M C A R XR)) (hr : Room n B.X.A) (hm : B.X.mg x = some (.ref f)) (hk : PySem.W.keepIn B.X.K (.ref f) = true) (hb : Binds B.X.K fd ps [])
    (h : Ta B ρ (e :: es) fun ds => ∃ i, ds = A i ∧ C i ∧ Sub (M i) B.M ∧ (∀ c fs, ¬ XR i c fs) ∧ ∀ d, R i d → k d) (hg : Gl B.X x := by rfl)
    (hdb : (x == ("__debug__" : Str)) = false := by decide) (he : starEach (e :: es) B.X.env = (false, eval e B.X.env) :: starEach es B.X.env := by rfl) (hpl : (backTo pos (starEach es B.X.env)).any (·.1) = false := by rfl) :
    Tk B ρ (.Call (.Name x p) (e :: es) [] pos) k := Tk.of fun σ H G s => by
  refine ⟨_, pe_call F hr hg hm hk hb .nil passX0 pa_W hdb he hpl, h.ta s fun vs ds G1 H1 g1 i1 r1 h1 => ?_⟩
  obtain ⟨i, rfl, ci, sb, nx, q⟩ := h1
  have s1 := s.step g1 i1
  rw [List.append_nil]
  refine ⟨i, G1, ci, s1.gr.s, sb.inn i1, r1, fun v d G' H' g j r hR => ?_, fun c fs od G' H' g j _ z => nx c fs z⟩
  obtain ⟨g', j'⟩ := sb.up i1 g j
  exact .back i1 g1 ⟨d, G', g', j', r, q d hR⟩
end
end Fz
namespace Fz
open PySem PySem.Spec PyProof.Rows L2
/-! ### statements -/
structure Ed where
  nx : Hp → L2.St → Hp → Prop
  rt : D → Prop
  rx : V → Hp → Prop := fun _ _ => False
/-- what is asked of a return -/
def Ed.r (B : Bx) (D : Ed) : V → Hp → Prop := fun v H' => Kd B B.G0 B.H0 D.rt v H' ∨ D.rx v H'
def Ed.e (B : Bx) (kp : Hp) (D : Ed) : Ends := { nx := D.nx kp, rt := D.r B }
def Tss (B : Bx) (ρ : List En) (st : List Stmt) (D : Ed) : Prop := ∀ kp σ H G, StOk B ρ σ H G → Same kp G → tWS B.X st (D.e B kp) σ H
/-- .. then the rest -/
def Ed.thn (B : Bx) (rest : List Stmt) (D : Ed) : Ed := { D with nx := fun kp => tWS B.X rest (D.e B kp) }
/-- the end of a loop's turn -/
def Ed.turn (B : Bx) (J : Nat → List En → Prop) (n : Nat) (D : Ed) : Ed := { D with nx := fun kp σ H => ∃ ρ G, J n ρ ∧ StOk B ρ σ H G ∧ Same kp G }
theorem tWS_mono {X : Cx} {st : List Stmt} {D D' : Ends} {σ : L2.St} {H : Hp} (h : tWS X st D σ H) (h1 : ∀ σ H, D.nx σ H → D'.nx σ H) (h2 : ∀ v H, D.rt v H → D'.rt v H) (h3 : ∀ σ H, D.bk σ H → D'.bk σ H) (h4 : ∀ σ H, D.ct σ H → D'.ct σ H) : tWS X st D' σ H :=
  fun pins s I => thn (h pins s I) fun f s' q => by
    cases f with
    | next => obtain ⟨σ', H', I', q⟩ := q; exact ⟨σ', H', I', h1 _ _ q⟩
    | brk => obtain ⟨σ', H', I', q⟩ := q; exact ⟨σ', H', I', h3 _ _ q⟩
    | cont => obtain ⟨σ', H', I', q⟩ := q; exact ⟨σ', H', I', h4 _ _ q⟩
    | ret u => obtain ⟨v, σ', H', I', r, q⟩ := q; exact ⟨v, σ', H', I', r, h2 _ _ q⟩
section
variable {B : Bx} {ρ : List En} {a b c e : Expr} {es : List Expr} {k : D → Prop} {x y z : Str} {pos p p' p'' : Pos} {st : Stmt} {rest body orelse : List Stmt} {D0 : Ed}
theorem Tss.of (h : ∀ kp σ H G, StOk B ρ σ H G → Same kp G → ∃ t, PS B.X st t ∧ t { nx := tWS B.X rest (D0.e B kp), rt := D0.r B } σ H) : Tss B ρ (st :: rest) D0 := fun kp σ H G s g pins s0 I => by
  obtain ⟨t, p, q⟩ := h kp σ H G s g
  exact (pss_cons p pss_W).run pins s0 σ H _ I q
theorem s_nil (h : ∀ kp σ H G, StOk B ρ σ H G → Same kp G → D0.nx kp σ H) : Tss B ρ [] D0 := fun kp σ H G s g pins s0 I => pss_nil.run pins s0 σ H _ I (h kp σ H G s g)
/-- a branch's end: on with the rest -/
theorem s_end (h : Tss B ρ rest D0) : Tss B ρ [] (D0.thn B rest) := s_nil fun kp σ H G s g => h kp σ H G s g
theorem s_turn {J : Nat → List En → Prop} {n : Nat} (h : J n ρ) : Tss B ρ [] (D0.turn B J n) := s_nil fun kp σ H G s g => ⟨ρ, G, h, s, g⟩
theorem s_ret (h : Tk B ρ e D0.rt) : Tss B ρ (.Return (some e) pos :: rest) D0 := Tss.of fun kp σ H G s g => ⟨_, ps_ret pe_W, h.te s fun v d G' H' g' i' r' h' => .inl (.back s.inv s.gr ⟨d, G', g', i', r', h'⟩)⟩
theorem s_retN (h : D0.rt .non) : Tss B ρ (.Return none pos :: rest) D0 := Tss.of fun kp σ H G s g => ⟨_, ps_retN, .inl (.back s.inv s.gr (.val s.gr.s s.inv .non h))⟩
theorem s_pass (h : Tss B ρ rest D0) : Tss B ρ (.Pass pos :: rest) D0 := Tss.of fun kp σ H G s g => ⟨_, ps_pass, h kp σ H G s g⟩
/-- name = e -/
theorem s_set (i : Nat) (h : Tk B ρ e fun d => Tss B (ρ.set i (.val d)) rest D0) (hN : B.X.N.Nodup) (hi : B.X.N[i]? = some x := by rfl) (hx : Loc B.X.env.scope x := by first | exact .inl rfl | exact .inr rfl)
    (hs : swapsWith e (some (.Name x p')) pos.line B.X.env = pure false := by rfl) (hf : B.X.fn x = true ∨ B.X.env.scope.names.lookup x = some .local := by first | exact .inl rfl | exact .inr rfl) :
    Tss B ρ (.Assign [.Name x p'] e pos :: rest) D0 := Tss.of fun kp σ H G s g => ⟨_, ps_set hN hi hx pe_W hs hf, h.te s fun v d G' H' g' i' r' h' => h' kp _ _ G' ((s.step g' i').put r') (g.trans g'.g)⟩
/-- a, b = e1, e2 with plain local names -/
def k2 (f : D → D → Prop) : List D → Prop
  | [d, e] => f d e
  | _ => False
theorem repAll2 {K : PySem.W.Frag} {S : Addr} {G : Hp} {vs : List V} {d e : D} (r : RepAll K S G vs [d, e]) : ∃ v w, vs = [v, w] ∧ Rep K S G v d ∧ Rep K S G w e := by
  cases r with
  | cons r1 r =>
    cases r with
    | cons r2 r =>
      cases r
      exact ⟨_, _, rfl, r1, r2⟩
theorem s_par (i j : Nat) {kt kk pt2 pt} (h : Ta B ρ [a, b] (k2 fun d e => Tss B ((ρ.set i (.val d)).set j (.val e)) rest D0)) (hc : B.X.calm = true) (hN : B.X.N.Nodup) (hij : i ≠ j := by decide) (hi : B.X.N[i]? = some x := by rfl) (hj : B.X.N[j]? = some y := by rfl)
    (hx : B.X.env.scope.names.lookup x = some .local := by rfl) (hy : B.X.env.scope.names.lookup y = some .local := by rfl)
    (hw : swappedStores [.Tuple [.Name x p', .Name y p''] kt pt] (.Tuple [a, b] kk pt2) B.X.env = pure (some [x, y]) := by rfl)
    (hs : swapsWithSole [.Tuple [.Name x p', .Name y p''] kt pt] (.Tuple [a, b] kk pt2) pos.line B.X.env = pure false := by rfl) :
    Tss B ρ (.Assign [.Tuple [.Name x p', .Name y p''] kt pt] (.Tuple [a, b] kk pt2) pos :: rest) D0 := Tss.of fun kp σ H G s g =>
  ⟨_, ps_par hc hN hi hj hij hx hy pa_W hw hs, h.ta s fun vs ds G' H' g' i' r' h' => by
    rcases ds with _ | ⟨d, _ | ⟨e, _ | ⟨f, r⟩⟩⟩
    · exact h'.elim
    · exact h'.elim
    · obtain ⟨v, w, rfl, r1, r2⟩ := repAll2 r'
      exact ⟨v, w, rfl, h' kp _ _ G' (((s.step g' i').put r1).put r2) (g.trans g'.g)⟩
    · exact h'.elim⟩
/-- targets that are names -/
def putAll (ρ : List En) : List Nat → List D → List En
  | i :: is, d :: ds => putAll (ρ.set i (.val d)) is ds
  | _, _ => ρ
structure NamesAt (X : Cx) (es : List Expr) (is : List Nat) : Prop where
  run : ∀ {B : Bx} {ρ : List En} {σ : L2.St} {H G : Hp} {vs : List V} {ds : List D} {Q : L2.St → Hp → Prop}, B.X = X → StOk B ρ σ H G → RepAll B.X.K B.S G vs ds → ds.length = is.length → (∀ σ', StOk B (putAll ρ is ds) σ' H G → Q σ' H) →
    ∃ t, PGs X es t ∧ t vs σ H Q
theorem na_nil {X : Cx} : NamesAt X [] [] := ⟨fun {B ρ σ H G vs ds Q} e s r hl q => by
  cases ds with
  | nil =>
    cases r
    exact ⟨_, pgs_nil, rfl, q σ s⟩
  | cons d ds => cases hl⟩
/-- a, b, .. = a tuple's items: the targets' reading -/
def gNames : List Nat → TGs
  | [] => gNil
  | i :: is => gCons (gName i) (gNames is)
theorem gNames_run {B : Bx} {H G : Hp} {Q : L2.St → Hp → Prop} : ∀ {is : List Nat} {ρ : List En} {σ : L2.St} {vs : List V} {ds : List D}, StOk B ρ σ H G → RepAll B.X.K B.S G vs ds → ds.length = is.length → (∀ σ', StOk B (putAll ρ is ds) σ' H G → Q σ' H) → gNames is vs σ H Q
  | [], ρ, σ, vs, ds, s, r, hl, q => by
    cases ds with
    | nil =>
      cases r
      exact ⟨rfl, q σ s⟩
    | cons d ds => cases hl
  | i :: is, ρ, σ, vs, ds, s, r, hl, q => by
    cases ds with
    | nil => cases hl
    | cons d ds =>
      cases r with
      | cons r1 r2 => exact ⟨_, _, rfl, gNames_run (s.put r1) r2 (Nat.succ.inj hl) q⟩
def kTup (n : Nat) (f : List D → Prop) : D → Prop
  | .tup ds => ds.length = n ∧ f ds
  | _ => False
/-- (a, b, ..) = e -/
theorem s_unp (is : List Nat) {kt pt} (h : Tk B ρ e (kTup is.length fun ds => Tss B (putAll ρ is ds) rest D0)) (hg : PGs B.X es (gNames is)) (hc : B.X.calm = true)
    (hn : (assignEach es B.X.env).length = is.length := by rfl) (hst : (assignEach es B.X.env).findIdx? (·.1) = none := by rfl)
    (hs : swapsWithSole [.Tuple es kt pt] e pos.line B.X.env = pure false := by rfl) (hw : swappedStores [.Tuple es kt pt] e B.X.env = pure none := by rfl)
    (h1 : (assignEach [.Tuple es kt pt] B.X.env).map (·.2) = [assign (.Tuple es kt pt) B.X.env] := by rfl) : Tss B ρ (.Assign [.Tuple es kt pt] e pos :: rest) D0 := Tss.of fun kp σ H G s g =>
  ⟨_, ps_asg pe_W (pg_tup hc hg hn hst) hs hw h1, h.te s fun v d G' H' g' i' r' h' => by
    cases d with
    | tup ds =>
      obtain ⟨hl, hk⟩ := h'
      obtain ⟨a, xs, rfl, hx, ra⟩ := r'.tupI
      have s1 := s.step g' i'
      exact ⟨a, xs, rfl, same_seqT s1.gr.s hx, by rw [ra.length]; exact hl, gNames_run s1 ra hl fun σ' s' => hk kp σ' _ G' s' (g.trans g'.g)⟩
    | _ => exact h'.elim⟩
/-- an expression as a statement -/
theorem s_expr (h : Tk B ρ e fun _ => Tss B ρ rest D0) (hs : swapsWith e none pos.line B.X.env = pure false := by rfl) : Tss B ρ (.Expr e pos :: rest) D0 := Tss.of fun kp σ H G s g =>
  ⟨_, ps_expr pe_W hs, h.te s fun v d G' H' g' i' r' h' => h' kp _ _ G' (s.step g' i') (g.trans g'.g)⟩
theorem s_if (h : Tt B ρ c fun t => cB t (Tss B ρ body (D0.thn B rest)) (Tss B ρ orelse (D0.thn B rest))) : Tss B ρ (.If c body orelse pos :: rest) D0 := Tss.of fun kp σ H G s g =>
  ⟨_, ps_if pt_W pss_W pss_W, h.tt s fun t G' H' g' i' h' => by
    cases t with
    | true =>
      rw [if_pos rfl]
      exact (show Tss B ρ body (D0.thn B rest) from h') kp _ _ G' (s.step g' i') (g.trans g'.g)
    | false =>
      rw [if_neg Bool.false_ne_true]
      exact (show Tss B ρ orelse (D0.thn B rest) from h') kp _ _ G' (s.step g' i') (g.trans g'.g)⟩

/-! ### loops -/
/-- for i in range(..) -/
theorem loopR {i : Nat} {lo : Int} {n : Nat} {J : Nat → List En → Prop} {kp G1 H1 : Hp} {σ : L2.St} (h0 : J 0 ρ) (s : StOk B ρ σ H1 G1) (g : Same kp G1)
    (hb : ∀ (j : Nat) ρ', j < n → J j ρ' → Tss B (ρ'.set i (.val (.int (lo + (j : Int))))) body (D0.turn B J (j + 1))) (hd : ∀ ρ', J n ρ' → Tss B ρ' rest D0) :
    ∃ W : Nat → Nat → L2.St → Hp → Prop, (∃ m, W 0 m σ H1) ∧ ∀ j m σ H, W j m σ H →
      ((Itr lo n).stop j H ∧ tWS B.X rest (D0.e B kp) σ H) ∨ ((Itr lo n).go j H ∧ ∃ N : L2.St → Hp → Prop, (∀ σ' H', N σ' H' → ∃ m', m' < m ∧ W (j + 1) m' σ' H') ∧ ∀ x H', (Itr lo n).yld j H x H' → gName i x σ H' fun σ2 H2 => tWS B.X body { nx := N, rt := D0.r B, ct := N, bk := tWS B.X rest (D0.e B kp) } σ2 H2) :=
  for_range (lo := lo) (n := n) (g := gName i) (tb := tWS B.X body) (D := { nx := tWS B.X rest (D0.e B kp), rt := D0.r B }) (fun j σ H => ∃ ρ' G, J j ρ' ∧ StOk B ρ' σ H G ∧ Same kp G) ⟨ρ, G1, h0, s, g⟩
    (fun j σ H hj ⟨ρ', G, hJ, s', g'⟩ => tWS_mono (hb j ρ' hj hJ kp _ H G (s'.put (.int _)) g') (fun _ _ q => q) (fun _ _ q => q) (fun _ _ q => q.elim) (fun _ _ q => q.elim))
    (fun σ H ⟨ρ', G, hJ, s', g'⟩ => hd ρ' hJ kp σ H G s' g')
def kRng1 (f : Int → Nat → Prop) : List D → Prop
  | [.int j] => -(2 ^ 62) ≤ j ∧ j < 2 ^ 62 ∧ f 0 j.toNat
  | _ => False
def kRng2 (f : Int → Nat → Prop) : List D → Prop
  | [.int i, .int j] => (-(2 ^ 62) ≤ i ∧ i < 2 ^ 62 ∧ -(2 ^ 62) ≤ j ∧ j < 2 ^ 62) ∧ f i (j - i).toNat
  | _ => False
/-- J: which rows stand ahead of turn j -/
def LoopR (B : Bx) (ρ : List En) (i : Nat) (body rest : List Stmt) (D0 : Ed) (lo : Int) (n : Nat) : Prop := ∃ J : Nat → List En → Prop, J 0 ρ ∧
  (∀ (j : Nat) ρ', j < n → J j ρ' → Tss B (ρ'.set i (.val (.int (lo + (j : Int))))) body (D0.turn B J (j + 1))) ∧ ∀ ρ', J n ρ' → Tss B ρ' rest D0
theorem s_for1 (i : Nat) {pr pc : Pos} (h : Ta B ρ [a] (kRng1 (LoopR B ρ i body rest D0))) (po : PassesOwn (model B.X.prog B.X.w) B.X.A B.X.env B.X.xe) (hc : B.X.calm = true) (hN : B.X.N.Nodup) (hm : B.X.mg "range" = none) (hi : B.X.N[i]? = some x := by rfl) (hx : Loc B.X.env.scope x := by first | exact .inl rfl | exact .inr rfl)
    (hf : B.X.fn x = true ∨ B.X.env.scope.names.lookup x = some .local := by first | exact .inl rfl | exact .inr rfl) (hg : Gl B.X "range" := by rfl) (hse : starEach [a] B.X.env = [(false, eval a B.X.env)] := by rfl)
    (hfs : ∀ v, foldedSetIterable (.Call (.Name "range" pr) [a] [] pc) B.X.env v = pure v := by intro _; rfl) :
    Tss B ρ (.For (.Name x p) (.Call (.Name "range" pr) [a] [] pc) body [] pos :: rest) D0 := Tss.of fun kp σ H G s g =>
  ⟨_, ps_for po hc (pi_range1 hg hm pa_W hse) (pg_name hN hi hx hf) pss_W hfs, h.ta s fun vs ds G' H' g' i' r' h' => by
    unfold kRng1 at h'
    split at h'
    · obtain ⟨h1, h2, J, j0, jb, jd⟩ := h'
      cases r' with
      | cons r1 r =>
        cases r
        have e := r1.intI
        subst e
        exact ⟨_, rfl, h1, h2, loopR j0 (s.step g' i') (g.trans g'.g) jb jd⟩
    · exact h'.elim⟩
theorem s_for2 (i : Nat) {pr pc : Pos} (h : Ta B ρ [a, b] (kRng2 (LoopR B ρ i body rest D0))) (po : PassesOwn (model B.X.prog B.X.w) B.X.A B.X.env B.X.xe) (hc : B.X.calm = true) (hN : B.X.N.Nodup) (hm : B.X.mg "range" = none) (hi : B.X.N[i]? = some x := by rfl) (hx : Loc B.X.env.scope x := by first | exact .inl rfl | exact .inr rfl)
    (hf : B.X.fn x = true ∨ B.X.env.scope.names.lookup x = some .local := by first | exact .inl rfl | exact .inr rfl) (hg : Gl B.X "range" := by rfl) (hse : starEach [a, b] B.X.env = [(false, eval a B.X.env), (false, eval b B.X.env)] := by rfl) (hse2 : starEach [b] B.X.env = [(false, eval b B.X.env)] := by rfl)
    (hfs : ∀ v, foldedSetIterable (.Call (.Name "range" pr) [a, b] [] pc) B.X.env v = pure v := by intro _; rfl) :
    Tss B ρ (.For (.Name x p) (.Call (.Name "range" pr) [a, b] [] pc) body [] pos :: rest) D0 := Tss.of fun kp σ H G s g =>
  ⟨_, ps_for po hc (pi_range2 hg hm pa_W hse hse2) (pg_name hN hi hx hf) pss_W hfs, h.ta s fun vs ds G' H' g' i' r' h' => by
    unfold kRng2 at h'
    split at h'
    · obtain ⟨h1, J, j0, jb, jd⟩ := h'
      cases r' with
      | cons r1 r =>
        cases r with
        | cons r2 r =>
          cases r
          have e := r1.intI
          have e2 := r2.intI
          subst e e2
          exact ⟨_, _, rfl, h1, loopR j0 (s.step g' i') (g.trans g'.g) jb jd⟩
    · exact h'.elim⟩
/-- for x in a list -/
def LoopL (B : Bx) (ρ : List En) (i : Nat) (body rest : List Stmt) (D0 : Ed) (ds : List D) : Prop := ∃ J : Nat → List En → Prop, J 0 ρ ∧
  (∀ (j : Nat) d ρ', ds[j]? = some d → J j ρ' → Tss B (ρ'.set i (.val d)) body (D0.turn B J (j + 1))) ∧ ∀ ρ', J ds.length ρ' → Tss B ρ' rest D0
def kSeq (f : List D → Prop) : D → Prop
  | .lst ds => f ds
  | .rdl ds => f ds
  | _ => False
def kSeqT (f : List D → Prop) : D → Prop
  | .tup ds => f ds
  | _ => False
theorem Rep.seqI {K : PySem.W.Frag} {S : Addr} {G : Hp} {v : V} {d : D} {f : List D → Prop} (r : Rep K S G v d) (h : kSeq f d) : ∃ a xs ds, v = .ref a ∧ SqL K G a xs ∧ RepAll K S G xs ds ∧ f ds := by
  cases d with
  | lst ds =>
    obtain ⟨a, xs, e, ha, ra⟩ := r.lstI
    exact ⟨a, xs, ds, e, SqL.of ha, ra, h⟩
  | rdl ds =>
    obtain ⟨a, xs, e, ha, ra⟩ := r.rdlI
    exact ⟨a, xs, ds, e, ha, ra, h⟩
  | _ => exact h.elim
theorem s_forL (i : Nat) (h : Tk B ρ e (kSeq (LoopL B ρ i body rest D0))) (po : PassesOwn (model B.X.prog B.X.w) B.X.A B.X.env B.X.xe) (hc : B.X.calm = true) (hN : B.X.N.Nodup) (hi : B.X.N[i]? = some x := by rfl) (hx : Loc B.X.env.scope x := by first | exact .inl rfl | exact .inr rfl)
    (hf : B.X.fn x = true ∨ B.X.env.scope.names.lookup x = some .local := by first | exact .inl rfl | exact .inr rfl)
    (hfs : ∀ v, foldedSetIterable e B.X.env v = pure v := by intro _; rfl) :
    Tss B ρ (.For (.Name x p) e body [] pos :: rest) D0 := Tss.of fun kp σ H G s g =>
  ⟨_, ps_for po hc (pi_list pe_W) (pg_name hN hi hx hf) pss_W hfs, h.te s fun v d G1 H1 g1 i1 r1 h1 => by
    obtain ⟨a, xs, ds, rfl, ha, ra, J, j0, jb, jd⟩ := r1.seqI h1
    have s1 := s.step g1 i1
    refine ⟨a, rfl, ⟨xs, Same.seq s1.gr.s ha⟩, for_list (K := B.X.K) (a := a) (xs := xs) (fun j σ H => ∃ ρ' G, J j ρ' ∧ StOk B ρ' σ H G ∧ Same G1 G) ⟨ρ, G1, j0, s1, .refl _⟩ (fun j σ H _ ⟨ρ', G, _, s', g'⟩ => Same.seq (g'.trans s'.gr.s) ha)
      (fun j x σ H hj ⟨ρ', G, hJ, s', g'⟩ => ?_) (fun σ H ⟨ρ', G, hJ, s', g'⟩ => ?_)⟩
    · obtain ⟨d, hd, rd⟩ := ra.getV hj
      exact tWS_mono (jb j d ρ' hd hJ G1 _ H G (s'.put (rd.mono g')) g') (fun _ _ q => q) (fun _ _ q => q) (fun _ _ q => q.elim) (fun _ _ q => q.elim)
    · rw [ra.length] at hJ
      exact jd ρ' hJ kp σ H G s' ((g.trans g1.g).trans g')⟩
/-- while c: body -/
theorem s_while (J : Nat → List En → Prop) (m0 : Nat) (h0 : J m0 ρ) (hb : ∀ m ρ', J m ρ' → Tt B ρ' c fun t => cB t (Tss B ρ' body { D0 with nx := fun kp σ H => ∃ m' ρ'' G, m' < m ∧ J m' ρ'' ∧ StOk B ρ'' σ H G ∧ Same kp G }) (Tss B ρ' rest D0))
    (po : PassesOwn (model B.X.prog B.X.w) B.X.A B.X.env B.X.xe) : Tss B ρ (.While c body [] pos :: rest) D0 := Tss.of fun kp σ H G s g =>
  ⟨_, ps_while po pt_W pss_W, fun m σ H => ∃ ρ' G, J m ρ' ∧ StOk B ρ' σ H G ∧ Same kp G, ⟨m0, ρ, G, h0, s, g⟩, fun m σ H ⟨ρ', G, hJ, s', g'⟩ => (hb m ρ' hJ).tt s' fun t G2 H2 g2 i2 h2 => by
    cases t with
    | true =>
      rw [if_pos rfl]
      refine ⟨fun σ H => ∃ m' ρ'' G, m' < m ∧ J m' ρ'' ∧ StOk B ρ'' σ H G ∧ Same kp G, fun σ' H' ⟨m', ρ'', G, hm, hJ', s'', g''⟩ => ⟨m', hm, ρ'', G, hJ', s'', g''⟩, ?_⟩
      exact tWS_mono ((show Tss B ρ' body _ from h2) kp _ _ G2 (s'.step g2 i2) (g'.trans g2.g)) (fun _ _ q => q) (fun _ _ q => q) (fun _ _ q => q.elim) (fun _ _ q => q.elim)
    | false =>
      rw [if_neg Bool.false_ne_true]
      exact (show Tss B ρ' rest D0 from h2) kp _ _ G2 (s'.step g2 i2) (g'.trans g2.g)⟩
end
end Fz
namespace Fz
open PySem PySem.Spec PyProof.Rows L2
/-! ### lists that the def owns -/
section
variable {B : Bx} {ρ : List En} {σ : L2.St} {H G H' G' : Hp}
/-- a new object that the def owns -/
theorem StOk.putOwn (s : StOk B ρ σ H G) {i : Nat} {p : Addr} {o : HO} {d0 : D} (n : H p = none) (t : Top B.X.K B.S G o d0) : StOk B (ρ.set i (.own d0)) (σ.set i (some (.ref p))) (upd H p o) G := by
  have gp : G p = none := s.gr.s.free n
  have hs : Same H (upd H p o) := same_new n
  have hw : ¬ B.M.W p := fun w => by
    obtain ⟨_, o', e⟩ := B.M.nn s.inv w
    rw [n] at e; cases e
  have h0 : B.H0 p = none := by
    cases e : B.H0 p with
    | none => rfl
    | some o' => rw [s.gr.h p o' hw e] at n; cases n
  have hl : ∀ {c : Nat} {f : En}, (ρ.set i (En.own d0))[c]? = some f → i = c → i < ρ.length := fun {c f} h z => by
    subst z
    have := (List.getElem?_eq_some_iff.mp h).1
    rwa [List.length_set] at this
  refine ⟨⟨s.gr.g, s.gr.s.trans hs, fun b x w h => hs b x (s.gr.h b x w h), s.gr.d⟩, B.M.st s.inv (.refl _) (s.gr.s.trans hs) (fun b w => (B.M.nn s.inv w).1) (fun b x _ h => hs b x h), by rw [List.length_set, List.length_set, s.len], fun j e h => ?_, fun j q0 e h => ?_, fun a b q0 r0 d e q h1 h2 h3 h4 => ?_, ?_⟩
  · by_cases hij : i = j
    · have l := hl h hij
      subst hij
      rw [List.getElem?_set_self l] at h
      cases h
    · rw [List.getElem?_set_ne hij] at h ⊢
      exact s.va j e h
  · by_cases hij : i = j
    · have l := hl h hij
      subst hij
      rw [List.getElem?_set_self l] at h
      cases h
      exact ⟨p, o, List.getElem?_set_self (by rw [s.len]; exact l), upd_same, gp, h0, hw, t, fun _ z => nomatch z⟩
    · rw [List.getElem?_set_ne hij] at h ⊢
      obtain ⟨q, o', e1, e2, e3⟩ := s.ow j q0 e h
      exact ⟨q, o', e1, hs _ _ e2, e3⟩
  · have old : ∀ {c : Nat} {q1 : Option Addr} {f : D}, i ≠ c → (ρ.set i (En.own d0))[c]? = some (En.ow q1 f) → (σ.set i (some (.ref p)))[c]? = some (some (.ref q)) → q ≠ p := fun {c q1 f} ne h h' => by
      rw [List.getElem?_set_ne ne] at h h'
      obtain ⟨q', o', e1, e2, _⟩ := s.ow c q1 f h
      rw [h'] at e1
      cases e1
      exact ne_of_none e2 n
    by_cases ha : i = a
    · by_cases hb : i = b
      · exact ha.symm.trans hb
      · exfalso
        have l := hl h1 ha
        subst ha
        rw [List.getElem?_set_self (by rw [s.len]; exact l)] at h3
        cases h3
        exact old hb h2 h4 rfl
    · by_cases hb : i = b
      · exfalso
        have l := hl h2 hb
        subst hb
        rw [List.getElem?_set_self (by rw [s.len]; exact l)] at h4
        cases h4
        exact old ha h1 h3 rfl
      · rw [List.getElem?_set_ne ha] at h1 h3
        rw [List.getElem?_set_ne hb] at h2 h4
        exact s.ap a b _ _ d e q h1 h2 h3 h4
  · by_cases hil : i < σ.length
    · exact s.rd.putOw hil (fun b o hb e => by rw [upd_ne hb]; exact e) fun j r h hb => by
        obtain ⟨o, e⟩ := s.rd.sm h hb
        rw [n] at e
        cases e
    · rw [List.set_eq_of_length_le (by rw [← s.len]; omega), List.set_eq_of_length_le (by omega)]
      exact s.rd.step ⟨.refl G, s.gr.s.trans hs, fun b o _ e => hs b o e, fun b o _ q => q⟩
/-- an owned object is changed -/
theorem StOk.change (s : StOk B ρ σ H G) {j : Nat} {q0 : Option Addr} {d d1 : D} {p : Addr} {o' : HO} (hj : ρ[j]? = some (En.ow q0 d)) (hp : σ[j]? = some (some (.ref p))) (t : Top B.X.K B.S G o' d1) : StOk B (ρ.set j (.ow q0 d1)) σ (upd H p o') G := by
  obtain ⟨q, o, e1, e2, gp, h0, hw, _, hqa⟩ := s.ow j q0 d hj
  rw [hp] at e1
  obtain rfl : p = q := by cases e1; rfl
  have jl : j < ρ.length := (List.getElem?_eq_some_iff.mp hj).1
  have hs : Same G (upd H p o') := fun b x e => by
    rw [upd_ne (ne_of_none e gp)]
    exact s.gr.s b x e
  refine ⟨⟨s.gr.g, hs, fun b x w h => ?_, s.gr.d⟩, B.M.st s.inv (.refl _) hs (fun b w => (B.M.nn s.inv w).1) (fun b x w h => by
      rw [upd_ne (show b ≠ p from fun z => hw (by rw [← z]; exact w))]
      exact h), by rw [List.length_set]; exact s.len, fun i e h => ?_, fun i q1 e h => ?_, fun a b q1 r1 d2 e q h1 h2 h3 h4 => ?_, s.rd.change hj hp⟩
  · rw [upd_ne (ne_of_none h h0)]
    exact s.gr.h b x w h
  · by_cases hij : j = i
    · subst hij
      rw [List.getElem?_set_self jl] at h
      cases h
    · rw [List.getElem?_set_ne hij] at h
      exact s.va i e h
  · by_cases hij : j = i
    · subst hij
      rw [List.getElem?_set_self jl] at h
      cases h
      exact ⟨p, o', hp, upd_same, gp, h0, hw, t, hqa⟩
    · rw [List.getElem?_set_ne hij] at h
      obtain ⟨r, x, f1, f2, f3⟩ := s.ow i q1 e h
      refine ⟨r, x, f1, ?_, f3⟩
      rw [upd_ne (fun z => ?_)]
      · exact f2
      · subst z
        exact hij (s.ap j i _ _ d e _ hj h hp f1)
  · have back : ∀ {c : Nat} {q2 : Option Addr} {f : D}, (ρ.set j (En.ow q0 d1))[c]? = some (En.ow q2 f) → ∃ q' f', ρ[c]? = some (En.ow q' f') := fun {c q2 f} h => by
      by_cases hc : j = c
      · exact ⟨q0, d, hc ▸ hj⟩
      · rw [List.getElem?_set_ne hc] at h
        exact ⟨q2, f, h⟩
    obtain ⟨_, f1, k1⟩ := back h1
    obtain ⟨_, f2, k2⟩ := back h2
    exact s.ap a b _ _ f1 f2 q k1 k2 h3 h4
/-- an owned object is let go: from now on it stands -/
theorem StOk.frz (s : StOk B ρ σ H G) {j : Nat} {q0 : Option Addr} {d : D} (hj : ρ[j]? = some (En.ow q0 d)) : ∃ G', Same G G' ∧ StOk B (ρ.set j (.val d)) σ H G' := by
  obtain ⟨p, o, e1, e2, gp, h0, hw, t, _⟩ := s.ow j q0 d hj
  have jl : j < ρ.length := (List.getElem?_eq_some_iff.mp hj).1
  have hg : Same G (upd G p o) := same_new gp
  have hs : Same (upd G p o) H := fun b x e => by
    by_cases hb : b = p
    · subst hb
      rw [upd_same] at e
      cases e
      exact e2
    · rw [upd_ne hb] at e
      exact s.gr.s b x e
  refine ⟨upd G p o, hg, ⟨s.gr.g.trans hg, hs, s.gr.h, fun b x h n => ?_⟩, B.M.st s.inv hg hs (fun b w => ?_) (fun b x _ h => h), by rw [List.length_set]; exact s.len, fun i e h => ?_, fun i q1 e h => ?_, fun a b q1 r1 d2 e q h1 h2 h3 h4 => ?_, s.rd.frz hj e1 gp⟩
  · rw [upd_ne (ne_of_none h h0)]
    exact s.gr.d b x h n
  · rw [upd_ne (show b ≠ p from fun z => hw (by rw [← z]; exact w))]
    exact (B.M.nn s.inv w).1
  · by_cases hij : j = i
    · subst hij
      rw [List.getElem?_set_self jl] at h
      cases h
      exact ⟨.ref p, e1, .obj upd_same (t.mono hg)⟩
    · rw [List.getElem?_set_ne hij] at h
      obtain ⟨v, f1, f2⟩ := s.va i e h
      exact ⟨v, f1, f2.mono hg⟩
  · by_cases hij : j = i
    · subst hij
      rw [List.getElem?_set_self jl] at h
      cases h
    · rw [List.getElem?_set_ne hij] at h
      obtain ⟨r, x, f1, f2, f3, f4, f5, f6, f7⟩ := s.ow i q1 e h
      refine ⟨r, x, f1, f2, ?_, f4, f5, f6.mono hg, f7⟩
      rw [upd_ne (fun z => ?_)]
      · exact f3
      · subst z
        exact hij (s.ap j i _ _ d e _ hj h e1 f1)
  · have back : ∀ {c : Nat} {q2 : Option Addr} {f : D}, (ρ.set j (En.val d))[c]? = some (En.ow q2 f) → ρ[c]? = some (En.ow q2 f) := fun {c q2 f} h => by
      by_cases hc : j = c
      · subst hc
        rw [List.getElem?_set_self jl] at h
        cases h
      · rw [List.getElem?_set_ne hc] at h
        exact h
    exact s.ap a b _ _ d2 e q (back h1) (back h2) h3 h4
end
section
variable {B : Bx} {ρ : List En} {a b c e : Expr} {es : List Expr} {k : D → Prop} {x y z : Str} {pos p p' p'' : Pos} {st : Stmt} {rest body orelse : List Stmt} {D0 : Ed}
/-- name = [..], the list the def's own -/
theorem s_ownL (i : Nat) {lp : Pos} (h : Ta B ρ es fun ds => ds.length ≤ sizeLine ∧ Tss B (ρ.set i (.own (.lst ds))) rest D0) (hN : B.X.N.Nodup) (hi : B.X.N[i]? = some x := by rfl) (hx : Loc B.X.env.scope x := by first | exact .inl rfl | exact .inr rfl)
    (hs : swapsWith (.List es lp) (some (.Name x p')) pos.line B.X.env = pure false := by rfl) (hf : B.X.fn x = true ∨ B.X.env.scope.names.lookup x = some .local := by first | exact .inl rfl | exact .inr rfl) :
    Tss B ρ (.Assign [.Name x p'] (.List es lp) pos :: rest) D0 := Tss.of fun kp σ H G s g =>
  ⟨_, ps_set hN hi hx (pe_lst pa_W) hs hf, h.ta s fun vs ds G' H' g' i' r' h' => ⟨by rw [r'.length]; exact h'.1, fun q n => h'.2 kp _ _ G' ((s.step g' i').putOwn n (.lst r')) (g.trans g'.g)⟩⟩
/-- name.append(e), the list the def's own -/
theorem s_app (j : Nat) {ds : List D} {np ap cp : Pos} (hr : ρ[j]? = some (.own (.lst ds))) (h : Tk B ρ e fun d => ds.length < sizeLine ∧ Tss B (ρ.set j (.own (.lst (ds ++ [d])))) rest D0)
    (hN : B.X.N[j]? = some x := by rfl) (hv : Vis B.X.env.scope x := by first | exact Or.inl rfl | exact Or.inr (Or.inl rfl) | exact Or.inr (Or.inr rfl)) (hd : (x == ("__debug__" : Str)) = false := by decide) (hcd : (x == ("__classdict__" : Str)) = false := by decide)
    (hbase : attributeBase (.Name x np) "append" B.X.env (eval (.Name x np) B.X.env) = eval (.Name x np) B.X.env := by rfl)
    (hfew : ((backTo cp (starEach [e] B.X.env)).all (fun x => !x.1) && (backToKw cp (keywordEach [] B.X.env)).all (fun x => x.1.isSome)
      && decide ([e].length + ([] : List Keyword).length + (if ([] : List Keyword).isEmpty then 0 else 1) < 30)) = true := by rfl)
    (hline : (ap.endLine == cp.line) = true := by rfl) (hs : starEach [e] B.X.env = (false, eval e B.X.env) :: starEach [] B.X.env := by rfl) (hplain : (backTo cp (starEach [] B.X.env)).any (·.1) = false := by rfl)
    (hsw : swapsWith (.Call (.Attribute (.Name x np) "append" ap) [e] [] cp) none pos.line B.X.env = pure false := by rfl) :
    Tss B ρ (.Expr (.Call (.Attribute (.Name x np) "append" ap) [e] [] cp) pos :: rest) D0 := Tss.of fun kp σ H G s g => by
  obtain ⟨q, o, e1, e2, gp, h0, hw, t, _⟩ := s.ow j _ _ hr
  cases t with
  | @lst xs _ ra =>
    refine ⟨_, ps_expr (pe_bm PySem.F.plainAttrs_list PySem.F.slot_list_append PySem.F.type_list_append mt_append (pe_var hN hv hd hcd) (pa_cons pe_W pa_nil hs) hbase hfew hline hs hplain) hsw, .ref q, e1, .inl ⟨rfl, _, SqL.of e2⟩, ?_⟩
    refine h.te s fun v d G' H' g' i' r' h' => ?_
    have s1 := s.step g' i'
    exact ⟨q, xs, v, rfl, rfl, g'.h _ _ hw e2, by rw [ra.length]; exact h'.1, h'.2 kp _ _ G' (s1.change hr e1 (.lst ((ra.mono g'.g).append (.one r')))) (g.trans g'.g)⟩
/-- from now on an own object stands -/
theorem s_frz (j : Nat) {d : D} {sts : List Stmt} (hr : ρ[j]? = some (.own d)) (h : Tss B (ρ.set j (.val d)) sts D0) : Tss B ρ sts D0 := fun kp σ H G s g => by
  obtain ⟨G', hg, s'⟩ := s.frz hr
  exact h kp σ H G' s' (g.trans hg)

/-! ### a def keeps its promise -/
/-- the end of a def's body -/
def Ed.ret (B : Bx) (R : D → Prop) : Ed := ⟨fun _ _ H => Kd B B.G0 B.H0 R .non H, R, fun _ _ => False⟩
theorem s_fall {R : D → Prop} (h : R .non) : Tss B ρ [] (Ed.ret B R) := s_nil fun kp σ H G s g => .back s.inv s.gr (.val s.gr.s s.inv .non h)
end
section
variable {P : Program} {w : World} {K : PySem.W.Frag} {mg : Str → Option Value} {base : Heap}
theorem start_get {N : List Str} {vs : List V} {i : Nat} (h : i < vs.length) : (L2.start N vs)[i]? = (vs[i]?).map some := by
  unfold L2.start
  rw [List.getElem?_append_left (by rw [List.length_map]; exact h), List.getElem?_map]
theorem def_okG {ι : Type} {S : Addr} {M : ι → Md} {C : ι → Prop} {A : ι → List D} {R : ι → D → Prop} {XR : ι → Addr → List (Str × D) → Prop} {qual : Str} {sc : Scope} {bd : List Stmt} {f : Addr} {fd : FuncData} {N ps : List Str} {n : Nat}
    (rule : ∀ {sp : Sp}, (∀ vs H Q E, sp vs H Q E → vs.length = ps.length) → (∀ (cdv : Value) (Ar : Around) (outer : List Env) (s : Shared) (H : Hp) (vs : List V) (Q : VK) (E : XK), Room n (Ar.deeper (envOfC qual sc s.heap.objs.size f cdv)) → sp vs H Q E →
      ∃ t, PSs (cxOf (L2.CX P w) P w K mg base N qual sc f cdv Ar outer s H E) bd t ∧ t { nx := fun _ H' => Q .non H', rt := Q } (L2.start N vs) H) → FnOk P w K mg base (L2.CX P w) (n + 1) f fd ps sp)
    (Sc : FnScope N ps sc) (len : ∀ i, (A i).length = ps.length) (ρ0 : ι → List En) (h0 : ∀ i, ρ0 i = (A i).map En.val ++ List.replicate (N.length - (A i).length) En.no)
    (body : ∀ (cdv : Value) (Ar : Around) (outer : List Env) (s : Shared) (H : Hp) (E : XK) (i : ι) (G : Hp), C i → Room n (Ar.deeper (envOfC qual sc s.heap.objs.size f cdv)) →
      PassesOwn (model P w) (cxOf (L2.CX P w) P w K mg base N qual sc f cdv Ar outer s H E).A (cxOf (L2.CX P w) P w K mg base N qual sc f cdv Ar outer s H E).env (cxOf (L2.CX P w) P w K mg base N qual sc f cdv Ar outer s H E).xe →
      (∀ c fs od G' H', Gr (M i).W G H G' H' → (M i).I G' H' → Xd K S G' od fs → XR i c fs → E (.ref c) od H') →
      Tss ⟨cxOf (L2.CX P w) P w K mg base N qual sc f cdv Ar outer s H E, S, M i, G, H⟩ (ρ0 i) bd (Ed.ret ⟨cxOf (L2.CX P w) P w K mg base N qual sc f cdv Ar outer s H E, S, M i, G, H⟩ (R i))) :
    FnOk P w K mg base (L2.CX P w) (n + 1) f fd ps (Spf K S M C A R XR) := by
  refine rule (fun vs H Q E h => ?_) (fun cdv Ar outer s H vs Q E hr h => ⟨_, pss_W, ?_⟩)
  · obtain ⟨i, G, _, _, _, r, _⟩ := h
    rw [r.length, len i]
  · obtain ⟨i, G, hc, hs, hi, r, q, qx⟩ := h
    have hlN : ps.length ≤ N.length := by have := congrArg List.length Sc.pre; rw [List.length_take] at this; omega
    have hlA := r.length
    have hlp := len i
    have s0 : StOk ⟨cxOf (L2.CX P w) P w K mg base N qual sc f cdv Ar outer s H E, S, M i, G, H⟩ (ρ0 i) (L2.start N vs) H G := by
      rw [h0 i]
      refine ⟨.refl hs, hi, ?_, fun j d hd => ?_, fun j q1 d hd => ?_, fun a b q1 r1 d e p h1 _ _ _ => ?_, .non0 fun j r hd => ?_⟩
      · unfold L2.start
        rw [List.length_append, List.length_append, List.length_map, List.length_map, List.length_replicate, List.length_replicate]
        omega
      · by_cases hj : j < (A i).length
        · rw [List.getElem?_append_left (by rw [List.length_map]; exact hj), List.getElem?_map] at hd
          cases e : (A i)[j]? with
          | none => rw [e] at hd; cases hd
          | some d' =>
            rw [e] at hd
            cases hd
            obtain ⟨v, hv, rv⟩ := r.get e
            exact ⟨v, by rw [start_get (by omega), hv]; rfl, rv⟩
        · rw [List.getElem?_append_right (by rw [List.length_map]; omega), List.getElem?_replicate] at hd
          split at hd <;> cases hd
      · by_cases hj : j < (A i).length
        · rw [List.getElem?_append_left (by rw [List.length_map]; exact hj), List.getElem?_map] at hd
          cases e : (A i)[j]? with
          | none => rw [e] at hd; cases hd
          | some d' => rw [e] at hd; cases hd
        · rw [List.getElem?_append_right (by rw [List.length_map]; omega), List.getElem?_replicate] at hd
          split at hd <;> cases hd
      · by_cases hj : a < (A i).length
        · rw [List.getElem?_append_left (by rw [List.length_map]; exact hj), List.getElem?_map] at h1
          cases e : (A i)[a]? with
          | none => rw [e] at h1; cases h1
          | some d' => rw [e] at h1; cases h1
        · rw [List.getElem?_append_right (by rw [List.length_map]; omega), List.getElem?_replicate] at h1
          split at h1 <;> cases h1
      · by_cases hj : j < (A i).length
        · rw [List.getElem?_append_left (by rw [List.length_map]; exact hj), List.getElem?_map] at hd
          cases e : (A i)[j]? with
          | none => rw [e] at hd; cases hd
          | some d' => rw [e] at hd; cases hd
        · rw [List.getElem?_append_right (by rw [List.length_map]; omega), List.getElem?_replicate] at hd
          split at hd <;> cases hd
    have fin : ∀ v H', Kd ⟨cxOf (L2.CX P w) P w K mg base N qual sc f cdv Ar outer s H E, S, M i, G, H⟩ G H (R i) v H' → Q v H' := fun v H' ⟨d, G', g, j, rd, hR⟩ => q v d G' H' g j rd hR
    exact tWS_mono (body cdv Ar outer s H E i G hc hr (passes_of rfl) qx G (L2.start N vs) H G s0 (.refl _)) (fun _ H' z => fin _ H' z) (fun v H' z => fin v H' (z.resolve_right fun y => y)) (fun _ _ z => z.elim) (fun _ _ z => z.elim)
theorem def_ok {ι : Type} {S : Addr} {M : ι → Md} {C : ι → Prop} {A : ι → List D} {R : ι → D → Prop} {XR : ι → Addr → List (Str × D) → Prop} {x qual : Str} {st : Stmt} {f : Addr} {fd : FuncData} {N ps : List Str} {n : Nat} (F : Fun K x qual st f fd)
    (Sc : FnScope N ps (defScope st)) (len : ∀ i, (A i).length = ps.length) (ρ0 : ι → List En) (h0 : ∀ i, ρ0 i = (A i).map En.val ++ List.replicate (N.length - (A i).length) En.no)
    (body : ∀ (cdv : Value) (Ar : Around) (outer : List Env) (s : Shared) (H : Hp) (E : XK) (i : ι) (G : Hp), C i → Room n (Ar.deeper (envOfC qual (defScope st) s.heap.objs.size f cdv)) →
      PassesOwn (model P w) (cxOf (L2.CX P w) P w K mg base N qual (defScope st) f cdv Ar outer s H E).A (cxOf (L2.CX P w) P w K mg base N qual (defScope st) f cdv Ar outer s H E).env (cxOf (L2.CX P w) P w K mg base N qual (defScope st) f cdv Ar outer s H E).xe →
      (∀ c fs od G' H', Gr (M i).W G H G' H' → (M i).I G' H' → Xd K S G' od fs → XR i c fs → E (.ref c) od H') →
      Tss ⟨cxOf (L2.CX P w) P w K mg base N qual (defScope st) f cdv Ar outer s H E, S, M i, G, H⟩ (ρ0 i) (defBody st) (Ed.ret ⟨cxOf (L2.CX P w) P w K mg base N qual (defScope st) f cdv Ar outer s H E, S, M i, G, H⟩ (R i))) :
    FnOk P w K mg base (L2.CX P w) (n + 1) f fd ps (Spf K S M C A R XR) :=
  def_okG (fun len hb => F.okX Sc len hb) Sc len ρ0 h0 body
end
end Fz
namespace Fz
open PySem PySem.Spec PyProof.Rows L2
/-! ### built-ins -/
def wk (r : List V → Hp → VK → Prop) : List V → Hp → VK → Prop := fun vs H Q => ∃ Q0 : VK, r vs H Q0 ∧ ∀ v H', Q0 v H' → Q v H'
theorem CallR.wk {X : Cx} {f : Value} {r : List V → Hp → VK → Prop} (h : CallR X f r) : CallR X f (wk r) := fun pins s σ H xs us Q I rs ⟨Q0, hr, q⟩ =>
  thn (h pins s σ H xs us Q0 I rs hr) fun u s' ⟨v, H', I', rv, q0⟩ => ⟨v, H', I', rv, q v H' q0⟩
section
variable {B : Bx} {ρ : List En} {a b c e : Expr} {es : List Expr} {k : D → Prop} {x y z : Str} {pos p p' p'' : Pos} {T : String}
/-- a built-in function by the data of its arguments -/
theorem tk_blt {id : String} {r : List V → Hp → VK → Prop} (hc : CallR B.X (.builtin id) r) (hm : B.X.mg x = none) (hv : bootBuiltins x = some (.builtin id)) {ko : List D → Prop} (h : Ta B ρ (e :: es) ko)
    (hr : ∀ vs ds (G H : Hp), Same G H → B.M.I G H → RepAll B.X.K B.S G vs ds → ko ds → r vs H (Kd B G H k)) (hg : Gl B.X x := by rfl) (hn : x ≠ "__name__" := by decide) (hdb : (x == ("__debug__" : Str)) = false := by decide)
    (he : starEach (e :: es) B.X.env = (false, eval e B.X.env) :: starEach es B.X.env := by rfl) (hpl : (backTo pos (starEach es B.X.env)).any (·.1) = false := by rfl) : Tk B ρ (.Call (.Name x p) (e :: es) [] pos) k :=
  Tk.of fun σ H G s => ⟨_, pe_callB (CallR.wk hc) hg hm hv pa_W hn hdb he hpl, h.ta s fun vs ds G1 H1 g1 i1 r1 h1 => ⟨_, hr vs ds G1 H1 (s.step g1 i1).gr.s i1 r1 h1, fun v H' q => .back i1 g1 q⟩⟩
theorem tk_bty {r : List V → Hp → VK → Prop} (hc : CallR B.X (.type T) r) (hm : B.X.mg x = none) (hv : bootBuiltins x = some (.type T)) {ko : List D → Prop} (h : Ta B ρ (e :: es) ko)
    (hr : ∀ vs ds (G H : Hp), Same G H → B.M.I G H → RepAll B.X.K B.S G vs ds → ko ds → r vs H (Kd B G H k)) (hg : Gl B.X x := by rfl) (hn : x ≠ "__name__" := by decide) (hdb : (x == ("__debug__" : Str)) = false := by decide)
    (he : starEach (e :: es) B.X.env = (false, eval e B.X.env) :: starEach es B.X.env := by rfl) (hpl : (backTo pos (starEach es B.X.env)).any (·.1) = false := by rfl) : Tk B ρ (.Call (.Name x p) (e :: es) [] pos) k :=
  Tk.of fun σ H G s => ⟨_, pe_callTy (CallR.wk hc) hg hm hv pa_W hn hdb he hpl, h.ta s fun vs ds G1 H1 g1 i1 r1 h1 => ⟨_, hr vs ds G1 H1 (s.step g1 i1).gr.s i1 r1 h1, fun v H' q => .back i1 g1 q⟩⟩
def k1 (f : D → Prop) : List D → Prop
  | [d] => f d
  | _ => False
theorem repAll1 {K : PySem.W.Frag} {S : Addr} {G : Hp} {vs : List V} {d : D} (r : RepAll K S G vs [d]) : ∃ v, vs = [v] ∧ Rep K S G v d := by
  cases r with
  | cons r1 r =>
    cases r
    exact ⟨_, rfl, r1⟩
theorem ko1 {K : PySem.W.Frag} {S : Addr} {G : Hp} {vs : List V} {ds : List D} {f : D → Prop} (r : RepAll K S G vs ds) (h : k1 f ds) : ∃ v d, vs = [v] ∧ Rep K S G v d ∧ f d := by
  rcases ds with _ | ⟨d, _ | ⟨e, t⟩⟩
  · exact h.elim
  · obtain ⟨v, e, rv⟩ := repAll1 r
    exact ⟨v, d, e, rv, h⟩
  · exact h.elim
theorem ko2 {K : PySem.W.Frag} {S : Addr} {G : Hp} {vs : List V} {ds : List D} {f : D → D → Prop} (r : RepAll K S G vs ds) (h : k2 f ds) : ∃ v w d e, vs = [v, w] ∧ Rep K S G v d ∧ Rep K S G w e ∧ f d e := by
  rcases ds with _ | ⟨d, _ | ⟨e, _ | ⟨f', t⟩⟩⟩
  · exact h.elim
  · exact h.elim
  · obtain ⟨v, w, e1, r1, r2⟩ := repAll2 r
    exact ⟨v, w, d, e, e1, r1, r2, h⟩
  · exact h.elim
def kInt (f : Int → Prop) : D → Prop
  | .int i => f i
  | _ => False
theorem kInt_of {K : PySem.W.Frag} {S : Addr} {G : Hp} {v : V} {d : D} {f : Int → Prop} (r : Rep K S G v d) (h : kInt f d) : ∃ i, v = .int i ∧ f i := by
  cases d with
  | int i => exact ⟨i, r.intI, h⟩
  | _ => exact h.elim
theorem Tk.mono {k' : D → Prop} (h : Tk B ρ e k) (hk : ∀ d, k d → k' d) : Tk B ρ e k' := fun σ H G s pins s0 I => thn (h σ H G s pins s0 I) fun u s' ⟨v, H', I', r, d, G', g, i, rp, kd⟩ => ⟨v, H', I', r, d, G', g, i, rp, hk d kd⟩
theorem ta_one (h : Tk B ρ a k) (he : starEach (a :: []) B.X.env = (false, eval a B.X.env) :: starEach [] B.X.env := by rfl) : Ta B ρ [a] (k1 k) := ta_cons (h.mono fun _ hd => ta_nil hd) he
theorem ta_two {f : D → D → Prop} (h : Tk B ρ a fun d => Tk B ρ b (f d)) (he : starEach (a :: [b]) B.X.env = (false, eval a B.X.env) :: starEach [b] B.X.env := by rfl) (he2 : starEach (b :: []) B.X.env = (false, eval b B.X.env) :: starEach [] B.X.env := by rfl) : Ta B ρ [a, b] (k2 f) :=
  ta_cons (h.mono fun _ hd => ta_cons (hd.mono fun _ he => ta_nil he) he2) he
theorem tk_abs (hm : B.X.mg "abs" = none) (h : Tk B ρ a (kInt fun i => k (.int (i.natAbs : Int)))) (hg : Gl B.X "abs" := by rfl)
    (he : starEach (a :: []) B.X.env = (false, eval a B.X.env) :: starEach [] B.X.env := by rfl) (hpl : (backTo pos (starEach [] B.X.env)).any (·.1) = false := by rfl) : Tk B ρ (.Call (.Name "abs" p) [a] [] pos) k :=
  tk_blt call_abs hm boot_abs (ta_one h he)
    (fun vs ds G H sg i r h => by
      obtain ⟨v, d, rfl, rv, hd⟩ := ko1 r h
      obtain ⟨j, rfl, hk⟩ := kInt_of rv hd
      refine ⟨j, rfl, ?_⟩
      have e : (if j < 0 then -j else j) = (j.natAbs : Int) := by split <;> omega
      rw [e]
      exact .val sg i (.int _) hk) hg (by decide) (by decide) he hpl
/-- isinstance(x, T), T a built-in class -/
def dTy : D → Option String
  | .non => some "NoneType" | .bl _ => some "bool" | .int _ => some "int" | .str _ => some "str" | .tup _ => some "tuple" | .lst _ => some "list" | .dct _ _ => some "dict"
  | _ => none
theorem rep_ty {K : PySem.W.Frag} {S : Addr} {G H : Hp} {v : V} {d : D} {t : String} (e : Same G H) (r : Rep K S G v d) (h : dTy d = some t) : TyX K H v (.type t) := by
  cases d with
  | non => cases h; rw [r.nonI]; exact .base .non
  | bl b => cases h; rw [r.blI]; exact .base (.bl b)
  | int i => cases h; rw [r.intI]; exact .base (.int i)
  | str x => cases h; rw [r.strI]; exact .base (.str x)
  | tup ds =>
    cases h
    obtain ⟨a, xs, rfl, hs, _⟩ := r.tupI
    rcases same_seqT e hs with (h | ⟨o, h⟩) | ⟨o, its, n, hk, hc, _⟩
    · exact .base (.tup h)
    · exact .fTuple h
    · exact .kTuple hk hc
  | lst ds =>
    cases h
    obtain ⟨a, xs, rfl, hs, _⟩ := r.lstI
    exact .base (.lst (e _ _ hs))
  | dct ks ds =>
    cases h
    obtain ⟨a, kvs, rfl, hs, _⟩ := r.dctI
    exact .base (.dK (e _ _ hs))
  | _ => cases h
theorem tk_isi {pT : Pos} (hm : B.X.mg "isinstance" = none) (hmT : B.X.mg y = none) (hvT : bootBuiltins y = some (.type T)) (h : Tk B ρ a fun d => ∃ t b, dTy d = some t ∧ kitB t T = some b ∧ k (.bl b)) (hg : Gl B.X "isinstance" := by rfl) (hgT : Gl B.X y := by rfl)
    (he : starEach (a :: [.Name y pT]) B.X.env = (false, eval a B.X.env) :: starEach [.Name y pT] B.X.env := by rfl) (he2 : starEach (.Name y pT :: []) B.X.env = (false, eval (.Name y pT) B.X.env) :: starEach [] B.X.env := by rfl)
    (hpl : (backTo pos (starEach [.Name y pT] B.X.env)).any (·.1) = false := by rfl) (hn : y ≠ "__name__" := by decide) (hdb : (y == ("__debug__" : Str)) = false := by decide) : Tk B ρ (.Call (.Name "isinstance" p) [a, .Name y pT] [] pos) k :=
  Tk.of fun σ H G s => ⟨_, pe_callB (CallR.wk call_isi) hg hm boot_isinstance (pa_cons pe_W (pa_cons (pe_bltn (v := .ty T) hgT hmT hvT rfl hn hdb) pa_nil he2) he) (by decide) (by decide) he hpl, h.te s fun v d G1 H1 g1 i1 r1 h1 => by
    obtain ⟨t, b, ht, hb, hk⟩ := h1
    have s1 := s.step g1 i1
    exact ⟨_, ⟨v, .ty T, .type t, .type T, b, rfl, .ty T, rep_ty s1.gr.s r1 ht, kit_ty hb, .val s1.gr.s i1 (.bl b) hk⟩, fun v H' q => .back i1 g1 q⟩⟩
/-- int(x) -/
def kNum (f : Int → Prop) : D → Prop
  | .int i => f i
  | .bl b => f (if b then 1 else 0)
  | _ => False
theorem tk_int (hm : B.X.mg "int" = none) (h : Tk B ρ a (kNum fun i => k (.int i))) (hg : Gl B.X "int" := by rfl)
    (he : starEach (a :: []) B.X.env = (false, eval a B.X.env) :: starEach [] B.X.env := by rfl) (hpl : (backTo pos (starEach [] B.X.env)).any (·.1) = false := by rfl) : Tk B ρ (.Call (.Name "int" p) [a] [] pos) k :=
  tk_bty call_int1 hm PySem.Pv.boot_int (ta_one h he)
    (fun vs ds G H sg i r h => by
      obtain ⟨v, d, rfl, rv, hd⟩ := ko1 r h
      cases d with
      | int j => rw [rv.intI]; exact .inl ⟨j, rfl, .val sg i (.int _) hd⟩
      | bl b => rw [rv.blI]; exact .inr ⟨b, rfl, .val sg i (.int _) hd⟩
      | _ => exact hd.elim) hg (by decide) (by decide) he hpl
/-- len(x) -/
def kLen (f : Nat → Prop) : D → Prop
  | .lst ds => f ds.length
  | .rdl ds => f ds.length
  | .tup ds => f ds.length
  | .str x => x.length ≤ sizeLine ∧ f x.length
  | _ => False
theorem tk_len (hm : B.X.mg "len" = none) (h : Tk B ρ a (kLen fun n => k (.int (n : Int)))) (hg : Gl B.X "len" := by rfl)
    (he : starEach (a :: []) B.X.env = (false, eval a B.X.env) :: starEach [] B.X.env := by rfl) (hpl : (backTo pos (starEach [] B.X.env)).any (·.1) = false := by rfl) : Tk B ρ (.Call (.Name "len" p) [a] [] pos) k :=
  tk_blt call_len hm PySem.boot_len (ta_one h he)
    (fun vs ds G H sg i r h => by
      obtain ⟨v, d, rfl, rv, hd⟩ := ko1 r h
      cases d with
      | lst es =>
        obtain ⟨a, xs, rfl, ha, ra⟩ := rv.lstI
        exact ⟨_, es.length, rfl, .inl ⟨xs, SqL.of (sg _ _ ha), ra.length.symm⟩, .val sg i (.int _) hd⟩
      | rdl es =>
        obtain ⟨a, xs, rfl, ha, ra⟩ := rv.rdlI
        exact ⟨_, es.length, rfl, .inl ⟨xs, Same.seq sg ha, ra.length.symm⟩, .val sg i (.int _) hd⟩
      | tup es =>
        obtain ⟨a, xs, rfl, ha, ra⟩ := rv.tupI
        exact ⟨_, es.length, rfl, .inr ⟨xs, same_seqT sg ha, ra.length.symm⟩, .val sg i (.int _) hd⟩
      | str z =>
        rw [rv.strI]
        exact ⟨_, z.length, rfl, ⟨hd.1, rfl⟩, .val sg i (.int _) hd.2⟩
      | _ => exact hd.elim) hg (by decide) (by decide) he hpl
/-- max(a, b), min(a, b) of ints -/
def k2I (f : Int → Int → Prop) : D → D → Prop
  | .int i, .int j => f i j
  | _, _ => False
theorem k2I_of {K : PySem.W.Frag} {S : Addr} {G : Hp} {v w : V} {d e : D} {f : Int → Int → Prop} (r : Rep K S G v d) (r2 : Rep K S G w e) (h : k2I f d e) : ∃ i j, v = .int i ∧ w = .int j ∧ f i j := by
  cases d with
  | int i =>
    cases e with
    | int j => exact ⟨i, j, r.intI, r2.intI, h⟩
    | _ => exact h.elim
  | _ => exact h.elim
theorem tk_max2 (hc : B.X.calm = true) (hm : B.X.mg "max" = none) (h : Tk B ρ a fun x => Tk B ρ b fun y => k2I (fun i j => k (.int (max i j))) x y) (hg : Gl B.X "max" := by rfl)
    (he : starEach (a :: [b]) B.X.env = (false, eval a B.X.env) :: starEach [b] B.X.env := by rfl) (he2 : starEach (b :: []) B.X.env = (false, eval b B.X.env) :: starEach [] B.X.env := by rfl) (hpl : (backTo pos (starEach [b] B.X.env)).any (·.1) = false := by rfl) : Tk B ρ (.Call (.Name "max" p) [a, b] [] pos) k :=
  tk_blt (call_max2 hc) hm boot_max (ta_two h he he2)
    (fun vs ds G H sg i r h => by
      obtain ⟨v, w, d, e, rfl, rv, rw', hd⟩ := ko2 r h
      obtain ⟨i1, j1, rfl, rfl, hk⟩ := k2I_of rv rw' hd
      refine ⟨i1, j1, rfl, ?_⟩
      have e : (if j1 > i1 then j1 else i1) = max i1 j1 := by split <;> omega
      rw [e]
      exact .val sg i (.int _) hk) hg (by decide) (by decide) he hpl
theorem tk_min2 (hc : B.X.calm = true) (hm : B.X.mg "min" = none) (h : Tk B ρ a fun x => Tk B ρ b fun y => k2I (fun i j => k (.int (min i j))) x y) (hg : Gl B.X "min" := by rfl)
    (he : starEach (a :: [b]) B.X.env = (false, eval a B.X.env) :: starEach [b] B.X.env := by rfl) (he2 : starEach (b :: []) B.X.env = (false, eval b B.X.env) :: starEach [] B.X.env := by rfl) (hpl : (backTo pos (starEach [b] B.X.env)).any (·.1) = false := by rfl) : Tk B ρ (.Call (.Name "min" p) [a, b] [] pos) k :=
  tk_blt (call_min2 hc) hm boot_min (ta_two h he he2)
    (fun vs ds G H sg i r h => by
      obtain ⟨v, w, d, e, rfl, rv, rw', hd⟩ := ko2 r h
      obtain ⟨i1, j1, rfl, rfl, hk⟩ := k2I_of rv rw' hd
      refine ⟨i1, j1, rfl, ?_⟩
      have e : (if j1 < i1 then j1 else i1) = min i1 j1 := by split <;> omega
      rw [e]
      exact .val sg i (.int _) hk) hg (by decide) (by decide) he hpl
/-- max(xs), min(xs) of a list of ints -/
def kInts (f : List Int → Prop) : D → Prop := fun d => ∃ ns : List Int, 0 < ns.length ∧ (d = .lst (ns.map D.int) ∨ d = .rdl (ns.map D.int)) ∧ f ns
theorem kInts_of {K : PySem.W.Frag} {S : Addr} {G : Hp} {v : V} {d : D} {f : List Int → Prop} (r : Rep K S G v d) (h : kInts f d) : ∃ a ns, v = .ref a ∧ SqL K G a (ns.map V.int) ∧ 0 < ns.length ∧ f ns := by
  obtain ⟨ns, h0, e | e, hf⟩ := h
  · subst e
    obtain ⟨a, xs, rfl, ha, ra⟩ := r.lstI
    exact ⟨a, ns, rfl, by rw [← ra.mapInt]; exact SqL.of ha, h0, hf⟩
  · subst e
    obtain ⟨a, xs, rfl, ha, ra⟩ := r.rdlI
    exact ⟨a, ns, rfl, by rw [← ra.mapInt]; exact ha, h0, hf⟩
theorem tk_maxL (hc : B.X.calm = true) (hm : B.X.mg "max" = none) (h : Tk B ρ a (kInts fun ns => ∀ m, m ∈ ns → (∀ y, y ∈ ns → y ≤ m) → k (.int m))) (hg : Gl B.X "max" := by rfl)
    (he : starEach (a :: []) B.X.env = (false, eval a B.X.env) :: starEach [] B.X.env := by rfl) (hpl : (backTo pos (starEach [] B.X.env)).any (·.1) = false := by rfl) : Tk B ρ (.Call (.Name "max" p) [a] [] pos) k :=
  tk_blt (cr_max hc) hm boot_max (ta_one h he)
    (fun vs ds G H sg i r h => by
      obtain ⟨v, d, rfl, rv, hd⟩ := ko1 r h
      obtain ⟨a, ns, rfl, ha, h0, hf⟩ := kInts_of rv hd
      exact ⟨a, ns, rfl, Same.seq sg ha, h0, fun m h1 h2 => .val sg i (.int _) (hf m h1 h2)⟩) hg (by decide) (by decide) he hpl
theorem tk_minL (hc : B.X.calm = true) (hm : B.X.mg "min" = none) (h : Tk B ρ a (kInts fun ns => ∀ m, m ∈ ns → (∀ y, y ∈ ns → m ≤ y) → k (.int m))) (hg : Gl B.X "min" := by rfl)
    (he : starEach (a :: []) B.X.env = (false, eval a B.X.env) :: starEach [] B.X.env := by rfl) (hpl : (backTo pos (starEach [] B.X.env)).any (·.1) = false := by rfl) : Tk B ρ (.Call (.Name "min" p) [a] [] pos) k :=
  tk_blt (cr_min hc) hm boot_min (ta_one h he)
    (fun vs ds G H sg i r h => by
      obtain ⟨v, d, rfl, rv, hd⟩ := ko1 r h
      obtain ⟨a, ns, rfl, ha, h0, hf⟩ := kInts_of rv hd
      exact ⟨a, ns, rfl, Same.seq sg ha, h0, fun m h1 h2 => .val sg i (.int _) (hf m h1 h2)⟩) hg (by decide) (by decide) he hpl
/-- list(x) -/
def kItems (f : List D → Prop) : D → Prop
  | .lst ds => f ds
  | .rdl ds => f ds
  | .tup ds => f ds
  | _ => False
theorem kItems_of {K : PySem.W.Frag} {S : Addr} {G : Hp} {v : V} {d : D} {f : List D → Prop} (r : Rep K S G v d) (h : kItems f d) : ∃ a xs ds, v = .ref a ∧ (SqL K G a xs ∨ SqT K G a xs) ∧ RepAll K S G xs ds ∧ f ds := by
  cases d with
  | lst ds =>
    obtain ⟨a, xs, rfl, ha, ra⟩ := r.lstI
    exact ⟨a, xs, ds, rfl, .inl (SqL.of ha), ra, h⟩
  | rdl ds =>
    obtain ⟨a, xs, rfl, ha, ra⟩ := r.rdlI
    exact ⟨a, xs, ds, rfl, .inl ha, ra, h⟩
  | tup ds =>
    obtain ⟨a, xs, rfl, ha, ra⟩ := r.tupI
    exact ⟨a, xs, ds, rfl, .inr ha, ra, h⟩
  | _ => exact h.elim
theorem tk_list (hm : B.X.mg "list" = none) (h : Tk B ρ a (kItems fun ds => k (.lst ds))) (hg : Gl B.X "list" := by rfl)
    (he : starEach (a :: []) B.X.env = (false, eval a B.X.env) :: starEach [] B.X.env := by rfl) (hpl : (backTo pos (starEach [] B.X.env)).any (·.1) = false := by rfl) : Tk B ρ (.Call (.Name "list" p) [a] [] pos) k :=
  tk_bty call_list_of hm PySem.Pv.boot_list (ta_one h he)
    (fun vs ds G H sg i r h => by
      obtain ⟨v, d, rfl, rv, hd⟩ := ko1 r h
      obtain ⟨a, xs, es, rfl, ha, ra, hf⟩ := kItems_of rv hd
      exact ⟨a, xs, rfl, ha.imp (Same.seq sg) (same_seqT sg), fun l n => .new sg i n (.lst ra) hf⟩) hg (by decide) (by decide) he hpl
/-- tuple(x) -/
theorem tk_tupleL (hm : B.X.mg "tuple" = none) (h : Tk B ρ a (kSeq fun ds => k (.tup ds))) (hg : Gl B.X "tuple" := by rfl)
    (he : starEach (a :: []) B.X.env = (false, eval a B.X.env) :: starEach [] B.X.env := by rfl) (hpl : (backTo pos (starEach [] B.X.env)).any (·.1) = false := by rfl) : Tk B ρ (.Call (.Name "tuple" p) [a] [] pos) k :=
  tk_bty call_tuple_of hm PySem.Pv.boot_tuple (ta_one h he)
    (fun vs ds G H sg i r h => by
      obtain ⟨v, d, rfl, rv, hd⟩ := ko1 r h
      obtain ⟨a, xs, es, rfl, ha, ra, hf⟩ := rv.seqI hd
      exact ⟨a, xs, rfl, .inl ⟨Same.seq sg ha, fun l n => .newT sg i n ra hf⟩⟩) hg (by decide) (by decide) he hpl
/-! ### slices of lists -/
theorem tk_rev {e : Expr} {kk : Nat} {p1 p2 p3 pos : Pos} (h : Tk B ρ e (kSeq fun ds => k (.lst ds.reverse))) : Tk B ρ (.Subscript e (.Slice none none (some (.UnaryOp .USub (.Constant (.int 1) kk p1) p2)) p3) pos) k := Tk.of fun σ H G s =>
  ⟨_, pe_revL pe_W, h.te s fun v d G1 H1 g1 i1 r1 h1 => by
    obtain ⟨a, xs, es, rfl, ha, ra, hf⟩ := r1.seqI h1
    have s1 := s.step g1 i1
    exact ⟨a, xs, rfl, Same.seq s1.gr.s ha, fun q n => .back i1 g1 (.new s1.gr.s i1 n (.lst ra.reverse) hf)⟩⟩
def tWO (X : Cx) (e : Option Expr) : TO := fun σ H Q => ∀ pins s, Inv X pins σ H s → wpAny (model X.prog X.w) X.A (evalPart e X.env) (fun u s' => ∃ o H', Inv X pins σ H' s' ∧ IsPart u o ∧ Q o H') X.xe s
theorem po_W {X : Cx} {e : Option Expr} : PO X e (tWO X e) := ⟨fun pins s _ _ _ I h => h pins s I⟩
def Tp (B : Bx) (ρ : List En) (e : Option Expr) (k : Option Int → Prop) : Prop := ∀ σ H G, StOk B ρ σ H G → tWO B.X e σ H (fun o H' => ∃ G', Gr B.M.W G H G' H' ∧ B.M.I G' H' ∧ k o)
theorem tp_none {k : Option Int → Prop} (h : k none) : Tp B ρ none k := fun σ H G s pins s0 I => po_none.run pins s0 σ H _ I ⟨G, .refl s.gr.s, s.inv, h⟩
theorem tp_some {k : Option Int → Prop} (h : Tk B ρ e (kInt fun i => k (some i))) : Tp B ρ (some e) k := fun σ H G s pins s0 I => (po_some pe_W).run pins s0 σ H _ I (h.te s fun v d G1 H1 g1 i1 r1 h1 => by
  obtain ⟨i, rfl, hi⟩ := kInt_of r1 h1
  exact ⟨i, rfl, G1, g1, i1, hi⟩)
def cutD (xs : List D) (lo hi : Option Int) : List D := (xs.drop (HT.sIx xs.length 0 lo)).take (HT.sIx xs.length xs.length hi - HT.sIx xs.length 0 lo)
theorem tk_slL {lo hi : Option Expr} {p2 : Pos} (h : Tk B ρ e (kSeq fun ds => Tp B ρ lo fun l => Tp B ρ hi fun u => k (.lst (cutD ds l u)))) : Tk B ρ (.Subscript e (.Slice lo hi none p2) pos) k := Tk.of fun σ H G s =>
  ⟨_, pe_slice sl_list pe_W po_W po_W, h.te s fun v d G1 H1 g1 i1 r1 h1 => by
    obtain ⟨a, xs, es, rfl, ha, ra, hf⟩ := r1.seqI h1
    have s1 := s.step g1 i1
    intro pins s0 I
    refine thn (hf σ H1 G1 s1 pins s0 I) fun u s' ⟨o, H2, I2, po, G2, g2, i2, h2⟩ => ⟨o, H2, I2, po, ?_⟩
    have s2 := s1.step g2 i2
    intro pins s0 I
    refine thn (h2 σ H2 G2 s2 pins s0 I) fun u s' ⟨o2, H3, I3, po, G3, g3, i3, h3⟩ => ⟨o2, H3, I3, po, ?_⟩
    have s3 := s2.step g3 i3
    have gg := g2.g.trans g3.g
    refine ⟨a, xs, rfl, Same.seq (gg.trans s3.gr.s) ha, fun q n => .back i3 (g1.trans i1 (g2.trans i2 g3)) (.new s3.gr.s i3 n (.lst ?_) h3)⟩
    unfold cutV
    rw [ra.length]
    exact ((ra.mono gg).drop _).take _⟩
end
end Fz
namespace Fz
open PySem PySem.Spec PyProof.Rows L2
/-! ### comprehensions -/
def wipeR (ρ : List En) : List Nat → List En
  | [] => ρ
  | v :: vs => (wipeR ρ vs).set v .no
theorem wipeR_length (ρ : List En) : ∀ vs, (wipeR ρ vs).length = ρ.length
  | [] => rfl
  | v :: vs => by unfold wipeR; rw [List.length_set, wipeR_length ρ vs]
theorem wipe_set_mem {i : Nat} {x : Option V} : ∀ {vs : List Nat} {σ : L2.St}, i ∈ vs → wipe (σ.set i x) vs = wipe σ vs
  | v :: vs, σ, h => by
    unfold wipe
    by_cases hv : i ∈ vs
    · rw [wipe_set_mem hv]
    · have e : i = v := by
        rcases List.mem_cons.mp h with e | e
        · exact e
        · exact absurd e hv
      subst e
      have q : ∀ (vs : List Nat) (σ : L2.St), i ∉ vs → wipe (σ.set i x) vs = (wipe σ vs).set i x := by
        intro vs
        induction vs with
        | nil => intro σ _; rfl
        | cons u us ih =>
          intro σ hu
          unfold wipe
          rw [ih σ (fun z => hu (List.mem_cons_of_mem _ z)), List.set_comm _ _ (fun z => hu (by rw [z]; exact List.mem_cons_self))]
      rw [q vs σ hv, List.set_set]
theorem wipe_twice (σ : L2.St) : ∀ vs : List Nat, wipe (wipe σ vs) vs = wipe σ vs := by
  have q : ∀ (us vs : List Nat), (∀ u ∈ us, u ∈ vs) → wipe (wipe σ us) vs = wipe σ vs := by
    intro us
    induction us with
    | nil => intro vs _; rfl
    | cons u us ih =>
      intro vs h
      show wipe ((wipe σ us).set u none) vs = wipe σ vs
      rw [wipe_set_mem (h u List.mem_cons_self)]
      exact ih vs fun w hw => h w (List.mem_cons_of_mem _ hw)
  exact fun vs => q vs vs fun _ h => h
section
variable {B : Bx} {ρ : List En} {σ : L2.St} {H G : Hp}
theorem StOk.unset (s : StOk B ρ σ H G) (i : Nat) : StOk B (ρ.set i .no) (σ.set i none) H G where
  gr := s.gr
  inv := s.inv
  len := by rw [List.length_set, List.length_set, s.len]
  va := fun j e h => by
    by_cases hij : i = j
    · subst hij
      have hl : i < ρ.length := by
        have := (List.getElem?_eq_some_iff.mp h).1
        rwa [List.length_set] at this
      rw [List.getElem?_set_self hl] at h
      cases h
    · rw [List.getElem?_set_ne hij] at h ⊢
      exact s.va j e h
  ow := fun j q0 e h => by
    by_cases hij : i = j
    · subst hij
      have hl : i < ρ.length := by
        have := (List.getElem?_eq_some_iff.mp h).1
        rwa [List.length_set] at this
      rw [List.getElem?_set_self hl] at h
      cases h
    · rw [List.getElem?_set_ne hij] at h ⊢
      exact s.ow j q0 e h
  ap := fun a b q0 r0 d e p h1 h2 h3 h4 => by
    have k : ∀ (c : Nat) (q : Option Addr) (f : D), (ρ.set i En.no)[c]? = some (En.ow q f) → i ≠ c := fun c q f h z => by
      subst z
      have hl : i < ρ.length := by
        have := (List.getElem?_eq_some_iff.mp h).1
        rwa [List.length_set] at this
      rw [List.getElem?_set_self hl] at h
      cases h
    have n1 := k a _ d h1
    have n2 := k b _ e h2
    rw [List.getElem?_set_ne n1] at h1 h3
    rw [List.getElem?_set_ne n2] at h2 h4
    exact s.ap a b _ _ d e p h1 h2 h3 h4
  rd := s.rd.set (fun _ z => nomatch z) fun _ _ z => nomatch z
theorem StOk.wipe (s : StOk B ρ σ H G) : ∀ vs : List Nat, StOk B (wipeR ρ vs) (L2.wipe σ vs) H G
  | [] => s
  | v :: vs => (s.wipe vs).unset v
end
/-- what a target does with a datum -/
structure TgD (K : PySem.W.Frag) (g : TG) (put : List En → D → List En → Prop) (is : List Nat) : Prop where
  run : ∀ {B : Bx} {ρ ρ' : List En} {d : D} {σ : L2.St} {H G : Hp} {v : V} {Q : L2.St → Hp → Prop}, B.X.K = K → put ρ d ρ' → StOk B ρ σ H G → Rep B.X.K B.S G v d → (∀ σ', StOk B ρ' σ' H G → (∀ vs : List Nat, (∀ i ∈ is, i ∈ vs) → wipe σ' vs = wipe σ vs) → Q σ' H) → g v σ H Q
def putN (i : Nat) : List En → D → List En → Prop := fun ρ d ρ' => ρ' = ρ.set i (.val d)
theorem td_name {K : PySem.W.Frag} (i : Nat) : TgD K (gName i) (putN i) [i] := ⟨fun {B ρ ρ' d σ H G v Q} _ e s r q => by
  subst e
  exact q _ (s.put r) fun vs h => wipe_set_mem (h i List.mem_cons_self)⟩
/-- a tuple's items to names -/
def putT (is : List Nat) : List En → D → List En → Prop := fun ρ d ρ' => ∃ ds, d = .tup ds ∧ ds.length = is.length ∧ ρ' = putAll ρ is ds
theorem gNames_wipe {B : Bx} {H G : Hp} {Q : L2.St → Hp → Prop} : ∀ {is : List Nat} {ρ : List En} {σ : L2.St} {vs : List V} {ds : List D}, StOk B ρ σ H G → RepAll B.X.K B.S G vs ds → ds.length = is.length →
    (∀ σ', StOk B (putAll ρ is ds) σ' H G → (∀ vs : List Nat, (∀ i ∈ is, i ∈ vs) → wipe σ' vs = wipe σ vs) → Q σ' H) → gNames is vs σ H Q
  | [], ρ, σ, vs, ds, s, r, hl, q => by
    cases ds with
    | nil =>
      cases r
      exact ⟨rfl, q σ s fun _ _ => rfl⟩
    | cons d ds => cases hl
  | i :: is, ρ, σ, vs, ds, s, r, hl, q => by
    cases ds with
    | nil => cases hl
    | cons d ds =>
      cases r with
      | cons r1 r2 => exact ⟨_, _, rfl, gNames_wipe (s.put r1) r2 (Nat.succ.inj hl) fun σ' s' w => q σ' s' fun vs h => by rw [w vs fun j hj => h j (List.mem_cons_of_mem _ hj), wipe_set_mem (h i List.mem_cons_self)]⟩
theorem td_tup {K : PySem.W.Frag} (is : List Nat) : TgD K (gTup K is.length (gNames is)) (putT is) is := ⟨fun {B ρ ρ' d σ H G v Q} hK e s r q => by
  obtain ⟨ds, rfl, hl, rfl⟩ := e
  obtain ⟨a, xs, rfl, hx, ra⟩ := r.tupI
  exact ⟨a, xs, rfl, same_seqT s.gr.s (hK ▸ hx), by rw [ra.length]; exact hl, gNames_wipe s ra hl q⟩⟩
/-- the block's context -/
abbrev Bx.blk (B : Bx) (s : Shared) (H : Hp) (scope : Scope) (cl : List (Str × Addr)) (C : Addr) (fp : List Addr) : Bx := { B with X := B.X.blk s H scope (compEnvC scope cl C B.X.env) fp }
theorem StOk.blk {B : Bx} {ρ : List En} {σ : L2.St} {H G : Hp} (s0 : StOk B ρ σ H G) {s : Shared} {H' : Hp} {scope : Scope} {cl : List (Str × Addr)} {C : Addr} {fp : List Addr} : StOk (B.blk s H' scope cl C fp) ρ σ H G := ⟨s0.gr, s0.inv, s0.len, s0.va, s0.ow, s0.ap, ⟨s0.rd.a0, s0.rd.rr, s0.rd.ro⟩⟩
/-- in every block -/
def TkB (B : Bx) (scope : Scope) (ρ : List En) (e : Expr) (k : D → Prop) : Prop := ∀ s H C cl fp, Tk (B.blk s H scope cl C fp) ρ e k
def TtB (B : Bx) (scope : Scope) (ρ : List En) (e : Expr) (k : Bool → Prop) : Prop := ∀ s H C cl fp, Tt (B.blk s H scope cl C fp) ρ e k
def tWB (X : Cx) (scope : Scope) (e : Expr) : TE := fun σ H Q => ∀ (s : Shared) (H' : Hp) (C : Addr) (cl : List (Str × Addr)) (fp : List Addr), tW (X.blk s H' scope (compEnvC scope cl C X.env) fp) e σ H Q
def tWTB (X : Cx) (scope : Scope) (e : Expr) : TT := fun σ H Q => ∀ (s : Shared) (H' : Hp) (C : Addr) (cl : List (Str × Addr)) (fp : List Addr), tWT (X.blk s H' scope (compEnvC scope cl C X.env) fp) e σ H Q
inductive All2 {α β : Type} (R : α → β → Prop) : List α → List β → Prop
  | nil : All2 R [] []
  | cons {a : α} {b : β} {as : List α} {bs : List β} : R a b → All2 R as bs → All2 R (a :: as) (b :: bs)
theorem All2.map {α β γ : Type} {R : β → γ → Prop} {f : α → β} {g : α → γ} : ∀ {xs : List α}, (∀ x ∈ xs, R (f x) (g x)) → All2 R (xs.map f) (xs.map g)
  | [], _ => .nil
  | x :: xs, h => .cons (h x List.mem_cons_self) (All2.map fun y hy => h y (List.mem_cons_of_mem _ hy))
theorem All2.length {α β : Type} {R : α → β → Prop} : ∀ {as : List α} {bs : List β}, All2 R as bs → as.length = bs.length
  | _, _, .nil => rfl
  | _, _, .cons _ t => by rw [List.length_cons, List.length_cons, t.length]
theorem All2.get {α β : Type} {R : α → β → Prop} : ∀ {as : List α} {bs : List β} {i : Nat} {a : α}, All2 R as bs → as[i]? = some a → ∃ b, bs[i]? = some b ∧ R a b
  | _, _, _, _, .nil, h => by simp at h
  | _, _, 0, _, .cons r _, h => by cases h; exact ⟨_, rfl, r⟩
  | _, _, i + 1, _, .cons _ t, h => All2.get (i := i) t h
/-- one turn: the item d, what it adds -/
def LcTurn (B : Bx) (scope : Scope) (ρ : List En) (put : List En → D → List En → Prop) (ifs : List Expr) (elt : Expr) (d : D) (r : Option D) : Prop :=
  ∃ ρ', put ρ d ρ' ∧ match ifs with
    | [] => TkB B scope ρ' elt fun x => r = some x
    | [c] => TtB B scope ρ' c fun b => cB b (TkB B scope ρ' elt fun x => r = some x) (r = none)
    | _ => False
def tIfs (X : Cx) (scope : Scope) : List Expr → TT
  | [] => tYes
  | [c] => tWTB X scope c
  | _ => fun _ _ _ => False
theorem pts_W {X : Cx} {scope : Scope} {ifs : List Expr} (hl : ifs.length ≤ 1) (s : Shared) (H : Hp) (C : Addr) (cl : List (Str × Addr)) (fp : List Addr) : PTs (X.blk s H scope (compEnvC scope cl C X.env) fp) ifs (tIfs X scope ifs) := by
  rcases ifs with _ | ⟨c, _ | ⟨c2, t⟩⟩
  · exact pts_nil
  · exact pts_one ⟨fun pins s0 σ H0 Q I h => h s H C cl fp pins s0 I⟩
  · simp at hl
/-- the comprehension's turn, over a state -/
theorem lc_turn {B : Bx} {ρ : List En} {σ : L2.St} {scope : Scope} {put : List En → D → List En → Prop} {is vs : List Nat} {g : TG} {ifs : List Expr} {elt : Expr} {d : D} {r : Option D} {v : V} {H G : Hp} {p : Addr} {acc : List V} {ds : List D} {N : Hp → Prop}
    (td : TgD B.X.K g put is) (hi : ∀ i ∈ is, i ∈ vs) (h : LcTurn B scope (wipeR ρ vs) put ifs elt d r) (s : StOk B ρ σ H G) (rv : Rep B.X.K B.S G v d) (hp : H p = some (.lst acc)) (gp : G p = none) (wp : ¬ B.M.W p) (ra : RepAll B.X.K B.S G acc ds) (hz : acc.length < sizeLine)
    (qn : ∀ G' H', Gr B.M.W G H G' H' → B.M.I G' H' → r = none → N H') (qs : ∀ G' H' y x, Gr B.M.W G H G' H' → B.M.I G' H' → r = some x → Rep B.X.K B.S G' y x → N (upd H' p (.lst (acc ++ [y])))) :
    g v (wipe σ vs) H fun σ2 H2 => wipe σ2 vs = wipe σ vs ∧ tIfs B.X scope ifs σ2 H2 fun b H3 => if b = true then tWB B.X scope elt σ2 H3 fun y H4 => ∃ acc, H4 p = some (.lst acc) ∧ acc.length < sizeLine ∧ N (upd H4 p (.lst (acc ++ [y]))) else N H3 := by
  obtain ⟨ρ', hput, ht⟩ := h
  refine td.run rfl hput (s.wipe vs) rv fun σ' s' hw => ⟨by rw [hw vs hi, wipe_twice], ?_⟩
  have elt_go : ∀ {H3 G3 : Hp}, StOk B ρ' σ' H3 G3 → Gr B.M.W G H G3 H3 → B.M.I G3 H3 → TkB B scope ρ' elt (fun x => r = some x) → tWB B.X scope elt σ' H3 fun y H4 => ∃ acc, H4 p = some (.lst acc) ∧ acc.length < sizeLine ∧ N (upd H4 p (.lst (acc ++ [y]))) := by
    intro H3 G3 s3 g3 i3 hk sh Hb C cl fp
    refine (hk sh Hb C cl fp).te s3.blk fun y x G4 H4 g4 i4 r4 e4 => ?_
    have g' : Gr B.M.W G H G4 H4 := g3.trans i3 g4
    exact ⟨acc, g'.h _ _ wp hp, hz, qs G4 H4 y x g' i4 e4 r4⟩
  rcases ifs with _ | ⟨c, _ | ⟨c2, t⟩⟩
  · show (if true = true then tWB B.X scope elt σ' H _ else N H)
    rw [if_pos rfl]
    exact elt_go s' (.refl s.gr.s) s.inv ht
  · intro sh Hb C cl fp
    refine (ht sh Hb C cl fp).tt s'.blk fun b G3 H3 g3 i3 h3 => ?_
    cases b with
    | true =>
      rw [if_pos rfl]
      exact elt_go (s'.step g3 i3) g3 i3 h3
    | false =>
      rw [if_neg Bool.false_ne_true]
      exact qn G3 H3 g3 i3 h3
  · exact ht.elim
section
variable {B : Bx} {ρ : List En} {a b e elt : Expr} {ifs : List Expr} {k : D → Prop} {pos p : Pos} {x : Str} {scope : Scope} {own : List (Str × Nat)} {tg iter : Expr} {put : List En → D → List En → Prop} {is : List Nat} {g : TG}
/-- the loop of a comprehension over items ds, each adding its r -/
theorem lc_inv {σ : L2.St} {G1 H1 : Hp} {p : Addr} {ds : List D} {rs : List (Option D)} {xs : List V} (s : StOk B ρ σ H1 G1) (ra : RepAll B.X.K B.S G1 xs ds) (hp : H1 p = none) (hsz : ds.length < sizeLine) (h : All2 (LcTurn B scope (wipeR ρ (own.map (·.2))) put ifs elt) ds rs) (hk : k (.lst (rs.filterMap id)))
    (td : TgD B.X.K g put is) (hi : ∀ i ∈ is, i ∈ own.map (·.2)) :
    ∃ Pv : Nat → Hp → Prop, Pv 0 (upd H1 p (.lst [])) ∧ (∀ i H, Pv i H → Same G1 H) ∧
      (∀ i v H, xs[i]? = some v → Pv i H → g v (wipe σ (own.map (·.2))) H fun σ2 H2 => wipe σ2 (own.map (·.2)) = wipe σ (own.map (·.2)) ∧ tIfs B.X scope ifs σ2 H2 fun b H3 => if b = true then tWB B.X scope elt σ2 H3 fun y H4 => ∃ acc, H4 p = some (.lst acc) ∧ acc.length < sizeLine ∧ Pv (i + 1) (upd H4 p (.lst (acc ++ [y]))) else Pv (i + 1) H3) ∧
      ∀ H, Pv xs.length H → Kd B G1 H1 k (.ref p) H := by
  have gp : G1 p = none := s.gr.s.free hp
  have wp : ¬ B.M.W p := fun w => by
    obtain ⟨_, o', e⟩ := B.M.nn s.inv w
    rw [hp] at e; cases e
  have hlen : xs.length = rs.length := ra.length.trans h.length
  refine ⟨fun i H => ∃ G acc, Gr B.M.W G1 H1 G H ∧ B.M.I G H ∧ StOk B ρ σ H G ∧ H p = some (.lst acc) ∧ G p = none ∧ RepAll B.X.K B.S G acc ((rs.take i).filterMap id) ∧ acc.length ≤ i, ?_, fun i H ⟨G, acc, gr, _⟩ => gr.g.trans gr.s, fun i v H hv ⟨G, acc, gr, iv, so, hpa, gpa, rca, hac⟩ => ?_, fun H ⟨G, acc, gr, iv, so, hpa, gpa, rca, hac⟩ => ?_⟩
  · have hs : Same H1 (upd H1 p (.lst [])) := same_new hp
    have g1 : Gr B.M.W G1 H1 G1 (upd H1 p (.lst [])) := ⟨.refl _, s.gr.s.trans hs, fun b o _ q => hs b o q, fun _ _ _ n => n⟩
    have i1 : B.M.I G1 (upd H1 p (.lst [])) := B.M.st s.inv (.refl _) (s.gr.s.trans hs) (fun b w => (B.M.nn s.inv w).1) fun b o _ q => hs b o q
    exact ⟨G1, [], g1, i1, s.step g1 i1, upd_same, gp, .nil, Nat.le_refl _⟩
  · obtain ⟨d, hd, rd⟩ := ra.getV hv
    obtain ⟨r, hr, ht⟩ := h.get hd
    have htake : rs.take (i + 1) = rs.take i ++ [r] := by
      rw [List.take_add_one, hr]; rfl
    have hil : i < ds.length := (List.getElem?_eq_some_iff.mp hd).1
    refine lc_turn td hi ht so (rd.mono gr.g) hpa gpa wp rca (by omega) (fun G' H' g' i' er => ?_) (fun G' H' y x g' i' er ry => ?_)
    · refine ⟨G', acc, gr.trans iv g', i', so.step g' i', g'.h _ _ wp hpa, g'.d _ _ hpa gpa, ?_, by omega⟩
      rw [htake, List.filterMap_append, er]
      show RepAll B.X.K B.S G' acc (_ ++ [])
      rw [List.append_nil]
      exact rca.mono g'.g
    · have hs : Same G' (upd H' p (.lst (acc ++ [y]))) := fun b o q => by
        rw [upd_ne (ne_of_none q (g'.d _ _ hpa gpa))]
        exact g'.s b o q
      have gg := gr.trans iv g'
      have g2 : Gr B.M.W G1 H1 G' (upd H' p (.lst (acc ++ [y]))) := ⟨gg.g, hs, fun b o w q => by
        rw [upd_ne (ne_of_none q hp)]
        exact gg.h b o w q, gg.d⟩
      have i2 : B.M.I G' (upd H' p (.lst (acc ++ [y]))) := B.M.st i' (.refl _) hs (fun b w => (B.M.nn i' w).1) fun b o w q => by
        rw [upd_ne (show b ≠ p from fun z => wp (by rw [← z]; exact w))]
        exact q
      refine ⟨G', acc ++ [y], g2, i2, s.step g2 i2, upd_same, g'.d _ _ hpa gpa, ?_, by rw [List.length_append, List.length_singleton]; omega⟩
      rw [htake, List.filterMap_append, er]
      exact (rca.mono g'.g).append (.one ry)
  · rw [hlen, List.take_length] at rca
    have hg : Same G (upd G p (.lst acc)) := same_new gpa
    have hs : Same (upd G p (.lst acc)) H := fun b o q => by
      by_cases hb : b = p
      · subst hb
        rw [upd_same] at q
        cases q
        exact hpa
      · rw [upd_ne hb] at q
        exact gr.s b o q
    refine ⟨_, upd G p (.lst acc), ⟨gr.g.trans hg, hs, gr.h, fun b o q n => ?_⟩, B.M.st iv hg hs (fun b w => ?_) (fun b o _ q => q), .obj upd_same (.lst (rca.mono hg)), hk⟩
    · rw [upd_ne (ne_of_none q hp)]
      exact gr.d b o q n
    · rw [upd_ne (show b ≠ p from fun z => wp (by rw [← z]; exact w))]
      exact (B.M.nn iv w).1
/-- [elt for tg in a list if ..] -/
theorem tk_lc (own : List (Str × Nat)) (g : TG) (put : List En → D → List En → Prop) (is : List Nat) (td : TgD B.X.K g put is) (hi : ∀ i ∈ is, i ∈ own.map (·.2)) (hl : ifs.length ≤ 1)
    (h : Tk B ρ iter (kSeq fun ds => ds.length < sizeLine ∧ ∃ rs, All2 (LcTurn B scope (wipeR ρ (own.map (·.2))) put ifs elt) ds rs ∧ k (.lst (rs.filterMap id))))
    (hc : B.X.calm = true) (hN : B.X.N.Nodup) (ok : BlkOk B.X.N B.X.env.scope scope own) (hg : ∀ (s : Shared) (H : Hp) (C : Addr) (cl : List (Str × Addr)) (fp : List Addr), PG (B.X.blk s H scope (compEnvC scope cl C B.X.env) fp) tg g)
    (hs : ∀ x, foldedSetIterable iter B.X.env x = pure x := by intro _; rfl) : Tk B ρ (.ListComp elt [⟨tg, iter, ifs, 0⟩] scope pos) k := Tk.of fun σ H G s =>
  ⟨_, pe_lc (te := tWB B.X scope elt) (tt := tIfs B.X scope ifs) hc hN (pi_list pe_W) ok hg (pts_W hl) (fun s' H' C cl fp => ⟨fun pins s0 σ H Q I h => h s' H' C cl fp pins s0 I⟩) hs, h.te s fun v d G1 H1 g1 i1 r1 h1 => by
    obtain ⟨a, xs, ds, rfl, ha, ra, hz, rs, h2, hk⟩ := r1.seqI h1
    have s1 := s.step g1 i1
    refine ⟨a, rfl, ⟨xs, Same.seq s1.gr.s ha⟩, fun p hp => ?_⟩
    obtain ⟨Pv, p0, pS, pt, pd⟩ := lc_inv s1 ra hp hz h2 hk td hi
    exact lc_list (K := B.X.K) (a := a) (xs := xs) (g := g) (tt := tIfs B.X scope ifs) (te := tWB B.X scope elt) (vs := own.map (·.2)) (σ := σ) Pv p0 (fun i H _ q => Same.seq (pS i H q) ha) (fun i x H hx q => pt i x H hx q) fun H q => Kd.back i1 g1 (pd H q)⟩
/-- .. in range(n), range(a, b) -/
def rngD (lo : Int) (n : Nat) : List D := (List.range n).map fun (j : Nat) => D.int (lo + (j : Int))
theorem rep_rng {K : PySem.W.Frag} {S : Addr} {G : Hp} (lo : Int) (n : Nat) : RepAll K S G ((List.range n).map fun (j : Nat) => V.int (lo + (j : Int))) (rngD lo n) := by
  unfold rngD
  generalize List.range n = l
  induction l with
  | nil => exact .nil
  | cons j l ih => exact .cons (.int _) ih
theorem rngD_length (lo : Int) (n : Nat) : (rngD lo n).length = n := by unfold rngD; rw [List.length_map, List.length_range]
theorem lc_rng {σ : L2.St} {G1 H1 G H : Hp} {lo : Int} {n : Nat} {rs : List (Option D)} {own : List (Str × Nat)} (i1 : B.M.I G1 H1) (i0 : B.M.I G H) (g1 : Gr B.M.W G H G1 H1) (s : StOk B ρ σ H1 G1) (hz : n < sizeLine) (h : All2 (LcTurn B scope (wipeR ρ (own.map (·.2))) put ifs elt) (rngD lo n) rs) (hk : k (.lst (rs.filterMap id)))
    (td : TgD B.X.K g put is) (hi : ∀ i ∈ is, i ∈ own.map (·.2)) : ∀ D, H1 D = none → ∃ W : Nat → Nat → Hp → Prop, (∃ m, W 0 m (upd H1 D (.lst []))) ∧ ∀ i m H', W i m H' →
      ((Itr lo n).stop i H' ∧ Kd B G H k (.ref D) H') ∨ ((Itr lo n).go i H' ∧ ∃ Nx : Hp → Prop, (∀ H', Nx H' → ∃ m', m' < m ∧ W (i + 1) m' H') ∧ ∀ x H2, (Itr lo n).yld i H' x H2 → g x (wipe σ (own.map (·.2))) H2 fun σ2 H2 => wipe σ2 (own.map (·.2)) = wipe σ (own.map (·.2)) ∧ tIfs B.X scope ifs σ2 H2 fun b H3 =>
        if b = true then tWB B.X scope elt σ2 H3 fun y H4 => ∃ acc, H4 D = some (.lst acc) ∧ acc.length < sizeLine ∧ Nx (upd H4 D (.lst (acc ++ [y]))) else Nx H3) := fun p hp => by
  obtain ⟨Pv, p0, pS, pt, pd⟩ := lc_inv s (rep_rng lo n) hp (by rw [rngD_length]; exact hz) h hk td hi
  have hl : ((List.range n).map fun (j : Nat) => V.int (lo + (j : Int))).length = n := by rw [List.length_map, List.length_range]
  rw [hl] at pd
  exact lc_range (lo := lo) (n := n) (g := g) (tt := tIfs B.X scope ifs) (te := tWB B.X scope elt) (vs := own.map (·.2)) (σ := σ) Pv p0 (fun i H hi q => pt i _ H (by rw [List.getElem?_map, List.getElem?_range hi]; rfl) q) fun H' q => Kd.back i1 g1 (pd H' q)
theorem tk_lcR1 (own : List (Str × Nat)) (g : TG) (put : List En → D → List En → Prop) (is : List Nat) {pr pc : Pos} (td : TgD B.X.K g put is) (hi : ∀ i ∈ is, i ∈ own.map (·.2)) (hl : ifs.length ≤ 1)
    (h : Ta B ρ [a] (kRng1 fun lo n => n < sizeLine ∧ ∃ rs, All2 (LcTurn B scope (wipeR ρ (own.map (·.2))) put ifs elt) (rngD lo n) rs ∧ k (.lst (rs.filterMap id)))) (hm : B.X.mg "range" = none)
    (hc : B.X.calm = true) (hN : B.X.N.Nodup) (ok : BlkOk B.X.N B.X.env.scope scope own) (hg : ∀ (s : Shared) (H : Hp) (C : Addr) (cl : List (Str × Addr)) (fp : List Addr), PG (B.X.blk s H scope (compEnvC scope cl C B.X.env) fp) tg g)
    (hgr : Gl B.X "range" := by rfl) (hse : starEach [a] B.X.env = [(false, eval a B.X.env)] := by rfl) (hs : ∀ v, foldedSetIterable (.Call (.Name "range" pr) [a] [] pc) B.X.env v = pure v := by intro _; rfl) :
    Tk B ρ (.ListComp elt [⟨tg, .Call (.Name "range" pr) [a] [] pc, ifs, 0⟩] scope pos) k := Tk.of fun σ H G s =>
  ⟨_, pe_lc (te := tWB B.X scope elt) (tt := tIfs B.X scope ifs) hc hN (pi_range1 hgr hm pa_W hse) ok hg (pts_W hl) (fun s' H' C cl fp => ⟨fun pins s0 σ H Q I h => h s' H' C cl fp pins s0 I⟩) hs, h.ta s fun vs ds G1 H1 g1 i1 r1 h1 => by
    unfold kRng1 at h1
    split at h1
    · obtain ⟨h2, h3, hz, rs, ht, hk⟩ := h1
      obtain ⟨v, rfl, rv⟩ := repAll1 r1
      have e := rv.intI
      subst e
      exact ⟨_, rfl, h2, h3, lc_rng i1 s.inv g1 (s.step g1 i1) hz ht hk td hi⟩
    · exact h1.elim⟩
theorem tk_lcR2 (own : List (Str × Nat)) (g : TG) (put : List En → D → List En → Prop) (is : List Nat) {pr pc : Pos} (td : TgD B.X.K g put is) (hi : ∀ i ∈ is, i ∈ own.map (·.2)) (hl : ifs.length ≤ 1)
    (h : Ta B ρ [a, b] (kRng2 fun lo n => n < sizeLine ∧ ∃ rs, All2 (LcTurn B scope (wipeR ρ (own.map (·.2))) put ifs elt) (rngD lo n) rs ∧ k (.lst (rs.filterMap id)))) (hm : B.X.mg "range" = none)
    (hc : B.X.calm = true) (hN : B.X.N.Nodup) (ok : BlkOk B.X.N B.X.env.scope scope own) (hg : ∀ (s : Shared) (H : Hp) (C : Addr) (cl : List (Str × Addr)) (fp : List Addr), PG (B.X.blk s H scope (compEnvC scope cl C B.X.env) fp) tg g)
    (hgr : Gl B.X "range" := by rfl) (hse : starEach [a, b] B.X.env = [(false, eval a B.X.env), (false, eval b B.X.env)] := by rfl) (hse2 : starEach [b] B.X.env = [(false, eval b B.X.env)] := by rfl) (hs : ∀ v, foldedSetIterable (.Call (.Name "range" pr) [a, b] [] pc) B.X.env v = pure v := by intro _; rfl) :
    Tk B ρ (.ListComp elt [⟨tg, .Call (.Name "range" pr) [a, b] [] pc, ifs, 0⟩] scope pos) k := Tk.of fun σ H G s =>
  ⟨_, pe_lc (te := tWB B.X scope elt) (tt := tIfs B.X scope ifs) hc hN (pi_range2 hgr hm pa_W hse hse2) ok hg (pts_W hl) (fun s' H' C cl fp => ⟨fun pins s0 σ H Q I h => h s' H' C cl fp pins s0 I⟩) hs, h.ta s fun vs ds G1 H1 g1 i1 r1 h1 => by
    unfold kRng2 at h1
    split at h1
    · obtain ⟨h2, hz, rs, ht, hk⟩ := h1
      obtain ⟨v, w, rfl, rv, rw'⟩ := repAll2 r1
      have e := rv.intI
      have e2 := rw'.intI
      subst e e2
      exact ⟨_, _, rfl, h2, lc_rng i1 s.inv g1 (s.step g1 i1) hz ht hk td hi⟩
    · exact h1.elim⟩
/-! ### for with any target, over lists and tuples -/
def LoopG (B : Bx) (ρ : List En) (put : List En → D → List En → Prop) (body rest : List Stmt) (D0 : Ed) (ds : List D) : Prop := ∃ J : Nat → List En → Prop, J 0 ρ ∧
  (∀ (j : Nat) d ρ', ds[j]? = some d → J j ρ' → ∃ ρ'', put ρ' d ρ'' ∧ Tss B ρ'' body (D0.turn B J (j + 1))) ∧ ∀ ρ', J ds.length ρ' → Tss B ρ' rest D0
theorem s_forG {body rest : List Stmt} {D0 : Ed} (g : TG) (put : List En → D → List En → Prop) (is : List Nat) (td : TgD B.X.K g put is) (hg : PG B.X tg g) (h : Tk B ρ e (kSeq (LoopG B ρ put body rest D0))) (po : PassesOwn (model B.X.prog B.X.w) B.X.A B.X.env B.X.xe) (hc : B.X.calm = true)
    (hfs : ∀ v, foldedSetIterable e B.X.env v = pure v := by intro _; rfl) : Tss B ρ (.For tg e body [] pos :: rest) D0 := Tss.of fun kp σ H G s gk =>
  ⟨_, ps_for po hc (pi_list pe_W) hg pss_W hfs, h.te s fun v d G1 H1 g1 i1 r1 h1 => by
    obtain ⟨a, xs, ds, rfl, ha, ra, J, j0, jb, jd⟩ := r1.seqI h1
    have s1 := s.step g1 i1
    refine ⟨a, rfl, ⟨xs, Same.seq s1.gr.s ha⟩, for_list (K := B.X.K) (a := a) (xs := xs) (fun j σ H => ∃ ρ' G, J j ρ' ∧ StOk B ρ' σ H G ∧ Same G1 G) ⟨ρ, G1, j0, s1, .refl _⟩ (fun j σ H _ ⟨ρ', G, _, s', g'⟩ => Same.seq (g'.trans s'.gr.s) ha)
      (fun j x σ H hj ⟨ρ', G, hJ, s', g'⟩ => ?_) (fun σ H ⟨ρ', G, hJ, s', g'⟩ => ?_)⟩
    · obtain ⟨d, hd, rd⟩ := ra.getV hj
      obtain ⟨ρ'', hp, hb⟩ := jb j d ρ' hd hJ
      exact td.run rfl hp s' (rd.mono g') fun σ' s'' _ => tWS_mono (hb G1 σ' H G s'' g') (fun _ _ q => q) (fun _ _ q => q) (fun _ _ q => q.elim) (fun _ _ q => q.elim)
    · rw [ra.length] at hJ
      exact jd ρ' hJ kp σ H G s' ((gk.trans g1.g).trans g')⟩
theorem s_forT {body rest : List Stmt} {D0 : Ed} (g : TG) (put : List En → D → List En → Prop) (is : List Nat) (td : TgD B.X.K g put is) (hg : PG B.X tg g) (h : Tk B ρ e (kSeqT (LoopG B ρ put body rest D0))) (po : PassesOwn (model B.X.prog B.X.w) B.X.A B.X.env B.X.xe) (hc : B.X.calm = true)
    (hfs : ∀ v, foldedSetIterable e B.X.env v = pure v := by intro _; rfl) : Tss B ρ (.For tg e body [] pos :: rest) D0 := Tss.of fun kp σ H G s gk =>
  ⟨_, ps_for po hc (pi_tup pe_W) hg pss_W hfs, h.te s fun v d G1 H1 g1 i1 r1 h1 => by
    cases d with
    | tup ds =>
      obtain ⟨a, xs, rfl, ha, ra⟩ := r1.tupI
      obtain ⟨J, j0, jb, jd⟩ := h1
      have s1 := s.step g1 i1
      refine ⟨a, rfl, ⟨xs, same_seqT s1.gr.s ha⟩, for_tup (K := B.X.K) (a := a) (xs := xs) (fun j σ H => ∃ ρ' G, J j ρ' ∧ StOk B ρ' σ H G ∧ Same G1 G) ⟨ρ, G1, j0, s1, .refl _⟩ (fun j σ H _ ⟨ρ', G, _, s', g'⟩ => same_seqT (g'.trans s'.gr.s) ha)
        (fun j x σ H hj ⟨ρ', G, hJ, s', g'⟩ => ?_) (fun σ H ⟨ρ', G, hJ, s', g'⟩ => ?_)⟩
      · obtain ⟨d, hd, rd⟩ := ra.getV hj
        obtain ⟨ρ'', hp, hb⟩ := jb j d ρ' hd hJ
        exact td.run rfl hp s' (rd.mono g') fun σ' s'' _ => tWS_mono (hb G1 σ' H G s'' g') (fun _ _ q => q) (fun _ _ q => q) (fun _ _ q => q.elim) (fun _ _ q => q.elim)
      · rw [ra.length] at hJ
        exact jd ρ' hJ kp σ H G s' ((gk.trans g1.g).trans g')
    | _ => exact h1.elim⟩
end
end Fz
/-! Fractions: Rat, sizes. -/
namespace Fz
open Rat (divInt)
def Sz (n : Nat) (x : Int) : Prop := x.natAbs < 2 ^ n
def QSz (n : Nat) (q : Rat) : Prop := q.num.natAbs < 2 ^ n ∧ q.den < 2 ^ n
theorem Sz.mono {a b : Nat} {x : Int} (h : Sz a x) (l : a ≤ b) : Sz b x := Nat.lt_of_lt_of_le h (Nat.pow_le_pow_right (by decide) l)
theorem QSz.mono {a b : Nat} {x : Rat} (h : QSz a x) (l : a ≤ b) : QSz b x := ⟨Nat.lt_of_lt_of_le h.1 (Nat.pow_le_pow_right (by decide) l), Nat.lt_of_lt_of_le h.2 (Nat.pow_le_pow_right (by decide) l)⟩
theorem Sz.mul {a b : Nat} {x y : Int} (h : Sz a x) (g : Sz b y) : Sz (a + b) (x * y) := by
  unfold Sz at *
  rw [Int.natAbs_mul, Nat.pow_add]
  exact Nat.mul_lt_mul'' h g
theorem Sz.add {a b c : Nat} {x y : Int} (h : Sz a x) (g : Sz b y) (ha : a < c := by omega) (hb : b < c := by omega) : Sz c (x + y) := by
  unfold Sz at *
  have h1 := Int.natAbs_add_le x y
  have h2 : 2 ^ a ≤ 2 ^ (c - 1) := Nat.pow_le_pow_right (by decide) (by omega)
  have h3 : 2 ^ b ≤ 2 ^ (c - 1) := Nat.pow_le_pow_right (by decide) (by omega)
  have h4 : 2 ^ c = 2 ^ (c - 1) + 2 ^ (c - 1) := by
    have : c = (c - 1) + 1 := by omega
    rw [this, Nat.pow_succ]
    simp
    omega
  omega
theorem Sz.neg {a : Nat} {x : Int} (h : Sz a x) : Sz a (-x) := by unfold Sz at *; rw [Int.natAbs_neg]; exact h
theorem Sz.sub {a b c : Nat} {x y : Int} (h : Sz a x) (g : Sz b y) (ha : a < c := by omega) (hb : b < c := by omega) : Sz c (x - y) := by
  rw [Int.sub_eq_add_neg]
  exact h.add g.neg ha hb
theorem Sz.abs {a : Nat} {x : Int} (h : Sz a x) : Sz a (x.natAbs : Int) := by unfold Sz at *; rw [Int.natAbs_natCast]; exact h
theorem Sz.mulW {a b : Nat} {x y : Int} (h : Sz a x) (g : Sz b y) (l : a + b ≤ 900000 := by omega) : L2.CMulW x y :=
  L2.wide_mul (a := a + 1) (b := b + 1) (Nat.lt_of_lt_of_le h (Nat.pow_le_pow_right (by decide) (by omega))) (Nat.lt_of_lt_of_le g (Nat.pow_le_pow_right (by decide) (by omega))) (by omega) (by omega) (by omega)
theorem Sz.divW {a : Nat} {x y : Int} (h : 0 < y) (g : Sz a y) (l : a ≤ 9000 := by omega) : L2.CDivW x y :=
  L2.wide_div (b := 9000) h (Nat.lt_of_lt_of_le g (Nat.pow_le_pow_right (by decide) l)) (by decide) (by decide)
theorem Sz.le {a : Nat} {x y : Int} (h : Sz a y) (l : x.natAbs ≤ y.natAbs) : Sz a x := Nat.lt_of_le_of_lt l h
theorem QSz.num {a : Nat} {q : Rat} (h : QSz a q) : Sz a q.num := h.1
theorem QSz.den {a : Nat} {q : Rat} (h : QSz a q) : Sz a (q.den : Int) := by unfold Sz; rw [Int.natAbs_natCast]; exact h.2
theorem Sz.of {a : Nat} {x : Int} (h : x.natAbs < 2 ^ a) : Sz a x := h
/-- a small one -/
theorem Sz.small {x : Int} (k : Nat) (h1 : -(2 ^ k) < x) (h2 : x < 2 ^ k) : Sz k x := by
  unfold Sz
  have e : (((2 : Nat) ^ k : Nat) : Int) = (2 : Int) ^ k := by simp
  omega
theorem den_pos (q : Rat) : (0 : Int) < q.den := by have := q.den_pos; omega
theorem natAbs_div_le (n : Int) (d : Nat) : (n / (d : Int)).natAbs ≤ n.natAbs := by
  rcases Nat.eq_zero_or_pos d with rfl | hd
  · simp
  · have h1 : -(n.natAbs : Int) ≤ n / (d : Int) := by
      apply Int.le_ediv_of_mul_le (by omega)
      have : (n.natAbs : Int) * (d : Int) ≥ n.natAbs := by
        have := Int.mul_le_mul_of_nonneg_left (show (1 : Int) ≤ d by omega) (show (0 : Int) ≤ n.natAbs by omega)
        omega
      rw [Int.neg_mul]
      omega
    have h2 : n / (d : Int) ≤ (n.natAbs : Int) := by
      apply Int.ediv_le_of_le_mul (by omega)
      have := Int.mul_le_mul_of_nonneg_left (show (1 : Int) ≤ d by omega) (show (0 : Int) ≤ n.natAbs by omega)
      omega
    omega
theorem num_le (n d : Int) : (divInt n d).num.natAbs ≤ n.natAbs := by
  rw [Rat.num_divInt]
  refine Nat.le_trans (natAbs_div_le _ _) ?_
  rw [Int.natAbs_mul]
  have : d.sign.natAbs ≤ 1 := by rcases Int.lt_trichotomy d 0 with h | h | h <;> simp [h, Int.sign_eq_neg_one_of_neg, Int.sign_eq_one_of_pos]
  exact Nat.le_trans (Nat.mul_le_mul_right _ this) (by omega)
theorem den_le (n d : Int) (h : d ≠ 0) : (divInt n d).den ≤ d.natAbs := by
  rw [Rat.den_divInt, if_neg h]
  exact Nat.div_le_self _ _
theorem QSz.div {a : Nat} {n d : Int} (h : d ≠ 0) (hn : Sz a n) (hd : Sz a d) : QSz a ((n : Rat) / (d : Rat)) := by
  rw [← Rat.divInt_eq_div]
  exact ⟨Nat.lt_of_le_of_lt (num_le n d) hn, Nat.lt_of_le_of_lt (den_le n d h) hd⟩
theorem QSz.int {a : Nat} {n : Int} (hn : Sz a n) (h : 0 < a) : QSz a (n : Rat) := ⟨hn, by
  rw [Rat.den_intCast]
  exact Nat.lt_of_lt_of_le (by decide : 1 < 2 ^ 1) (Nat.pow_le_pow_right (by decide) h)⟩
/-- what fraction gives -/
theorem frac_pos (n d : Int) (h : 0 < d) : (divInt n d).num = n / ((n.gcd d : Nat) : Int) ∧ (((divInt n d).den : Nat) : Int) = d / ((n.gcd d : Nat) : Int) := by
  rw [Rat.num_divInt, Rat.den_divInt, if_neg (by omega), Int.sign_eq_one_of_pos h, Int.one_mul, Int.gcd_comm d n]
  refine ⟨rfl, ?_⟩
  rw [Int.natCast_ediv]
  have : (d.natAbs : Int) = d := by omega
  rw [this]
theorem frac_neg (n d : Int) (h : d < 0) : (divInt n d).num = (-n) / (((-n).gcd (-d) : Nat) : Int) ∧ (((divInt n d).den : Nat) : Int) = (-d) / (((-n).gcd (-d) : Nat) : Int) := by
  rw [← Rat.neg_divInt_neg]
  exact frac_pos (-n) (-d) (by omega)
theorem gcd_pos_of {n d : Int} (h : d ≠ 0) : 0 < n.gcd d := by
  rw [Nat.pos_iff_ne_zero]
  intro z
  rw [Int.gcd_eq_zero_iff] at z
  exact h z.2
theorem gcd_sz {a : Nat} {n d : Int} (h : d ≠ 0) (hd : Sz a d) : Sz a ((n.gcd d : Nat) : Int) := by
  unfold Sz
  rw [Int.natAbs_natCast]
  exact Nat.lt_of_le_of_lt (Nat.le_of_dvd (by omega) (show Nat.gcd n.natAbs d.natAbs ∣ d.natAbs from Nat.gcd_dvd_right _ _)) hd
/-! ### the operations on fractions, by their numbers -/
theorem q_add (a b : Rat) : divInt (a.num * b.den + b.num * a.den) ((a.den : Int) * b.den) = a + b := by
  rw [Rat.add_def', ← Rat.divInt_ofNat, Int.natCast_mul]
theorem q_sub (a b : Rat) : divInt (a.num * b.den - b.num * a.den) ((a.den : Int) * b.den) = a - b := by
  rw [Rat.sub_def', ← Rat.divInt_ofNat, Int.natCast_mul]
theorem q_mul (a b : Rat) : divInt (a.num * b.num) ((a.den : Int) * b.den) = a * b := by
  rw [Rat.mul_def', ← Rat.divInt_ofNat, Int.natCast_mul]
theorem q_div (a b : Rat) : divInt (a.num * b.den) ((a.den : Int) * b.num) = a / b := by
  rw [Rat.div_def, Rat.inv_def, ← Rat.divInt_mul_divInt, Rat.num_divInt_den]
theorem q_lt (a b : Rat) : decide (a.num * b.den < b.num * a.den) = decide (a < b) := by
  rw [decide_eq_decide, Rat.lt_iff]
theorem q_self (a : Rat) : divInt a.num (a.den : Int) = a := by rw [Rat.divInt_ofNat, Rat.mkRat_self]
theorem q_pow (q : Rat) (n : Nat) : divInt (q.num ^ n) ((q.den : Int) ^ n) = q ^ n := by
  have := q_self (q ^ n)
  rw [Rat.num_pow, Rat.den_pow, Int.natCast_pow] at this
  exact this
theorem sum_take_succ {qs : List Rat} {j : Nat} {q : Rat} (h : qs[j]? = some q) : (qs.take (j + 1)).sum = (qs.take j).sum + q := by
  rw [List.take_add_one, h, List.sum_append]
  simp [Rat.add_zero]
theorem mkRat_toNat (l r : Int) (h : 0 < r) : mkRat l r.toNat = (l : Rat) / (r : Rat) := by
  rw [← Rat.divInt_eq_div, ← Rat.divInt_ofNat]
  congr 1
  omega
end Fz
namespace Fz
open PySem PySem.Spec PyProof.Rows L2
/-! ### a op b op c -/
section
variable {B : Bx} {ρ : List En} {a b c e : Expr} {es : List Expr} {k : D → Prop} {x y : Str} {pos p p' : Pos}
theorem tk_chain {op op' : CmpOp} {o o' : D → D → (D → Prop) → Prop} (ho : OpD B (compareOp op) o) (ho' : OpD B (compareOp op') o')
    (h : Tk B ρ a fun x => Tk B ρ b fun y => o x y (kB fun t => cB t (Tk B ρ c fun z => o' y z k) (k (.bl false)))) (hm : lastMarks [op, op'] [b, c] = false := by with_unfolding_all rfl) : Tk B ρ (.Compare a [op, op'] [b, c] pos) k := fun σ H G s pins s0 I => by
  refine Compare_chain (thn (h σ H G s pins s0 I) fun u s1 ⟨v, H1, I1, rv, d, G1, g1, i1, r1, h1⟩ => chain_link (thn (h1 σ H1 G1 (s.step g1 i1) pins s1 I1) fun u' s2 ⟨v', H2, I2, rv', d', G2, g2, i2, r2, h2⟩ =>
    thn (ho d d' _ h2 v v' G2 H2 ((s.step g1 i1).step g2 i2).gr.s i2 (r1.mono g2.g) r2 pins σ s2 I2 u u' rv rv') fun z s3 ⟨v3, H3, I3, r3, d3, G3, g3, i3, rp3, q3⟩ => ?_)) hm
  have st3 := ((s.step g1 i1).step g2 i2).step g3 i3
  have gg := (g1.trans i1 g2).trans i2 g3
  cases d3 with
  | bl t =>
    have e := rp3.blI
    subst e
    cases r3
    refine wpAny_truthy_bool ?_
    cases t with
    | false => exact ite_ff ⟨.bl false, H3, I3, rfl, .bl false, G3, gg, i3, .bl false, q3⟩
    | true =>
      refine ite_tt (chain_last (thn ((show Tk B ρ c _ from q3) σ H3 G3 st3 pins s3 I3) fun w' s4 ⟨v4, H4, I4, rv4, d4, G4, g4, i4, r4, h4⟩ => ?_))
      exact thn (ho' d' d4 k h4 v' v4 G4 H4 (st3.step g4 i4).gr.s i4 ((r2.mono g3.g).mono g4.g) r4 pins σ s4 I4 u' w' rv' rv4) fun z' s5 ⟨v5, H5, I5, r5, q5⟩ => ⟨v5, H5, I5, r5, .back i4 (gg.trans i3 g4) q5⟩
  | _ => exact q3.elim
end
theorem lenOk {n : Nat} (h : n ≤ 1000) : n ≤ sizeLine := Nat.le_trans h (by decide)
/-! ### what is known of the module -/
section
variable (P : Program) (w : World) (K : PySem.W.Frag) (mg : Str → Option Value) (base : Heap) (S : Addr)
/-- the name x is a def that keeps a promise -/
structure Kn (x : Str) (n : Nat) {ι : Type} (M : ι → Md) (C : ι → Prop) (A : ι → List D) (R : ι → D → Prop) (XR : ι → Addr → List (Str × D) → Prop) : Prop where
  ex : ∃ f fd ps, mg x = some (.ref f) ∧ PySem.W.keepIn K (.ref f) = true ∧ Binds K fd ps [] ∧ FnOk P w K mg base (L2.CX P w) n f fd ps (Spf K S M C A R XR)
/-- a pure one that raises nothing -/
abbrev KnP (x : Str) (n : Nat) {ι : Type} (C : ι → Prop) (A : ι → List D) (R : ι → D) : Prop := Kn P w K mg base S x n (fun _ : ι => pur) C A (fun i d => d = R i) (fun _ _ _ => False)
/-- where a def of the text stands -/
structure At (x : Str) (st : Stmt) (ps : List Str) : Prop where
  ex : ∃ f fd, mg x = some (.ref f) ∧ Fun K x x st f fd ∧ Binds K fd ps []
/-- a constant of the module -/
structure Co (x : Str) (d : D) : Prop where
  ex : ∃ u v, mg x = some u ∧ RelV v u ∧ ∀ G, Rep K S G v d
end
section
variable {B : Bx} {ρ : List En} {a b c e : Expr} {es : List Expr} {k : D → Prop} {x y : Str} {pos p p' : Pos}
theorem tk_co {d : D} (h : Co B.X.K B.X.mg B.S x d) (hk : k d) (hg : Gl B.X x := by rfl) (hd : (x == ("__debug__" : Str)) = false := by decide) : Tk B ρ (.Name x pos) k := by
  obtain ⟨u, v, hm, r, hr⟩ := h.ex
  exact tk_g hm r hr hk hg hd
theorem tk_kn {ι : Type} {M : ι → Md} {C : ι → Prop} {A : ι → List D} {R : ι → D → Prop} {XR : ι → Addr → List (Str × D) → Prop} {n : Nat}
    (F : Kn B.X.prog B.X.w B.X.K B.X.mg B.X.base B.S x n M C A R XR) {rm : Nat} (hr : Room rm B.X.A)
    (h : Ta B ρ (e :: es) fun ds => ∃ i, ds = A i ∧ C i ∧ Sub (M i) B.M ∧ (∀ c fs, ¬ XR i c fs) ∧ ∀ d, R i d → k d) (hg : Gl B.X x := by rfl)
    (hdb : (x == ("__debug__" : Str)) = false := by decide) (he : starEach (e :: es) B.X.env = (false, eval e B.X.env) :: starEach es B.X.env := by rfl) (hpl : (backTo pos (starEach es B.X.env)).any (·.1) = false := by rfl) (hrm : n ≤ rm := by decide) :
    Tk B ρ (.Call (.Name x p) (e :: es) [] pos) k := by
  obtain ⟨f, fd, ps, hm, hk, hb, G⟩ := F.ex
  exact tk_call G (hr.mono hrm) hm hk hb h hg hdb he hpl
theorem tk_knP {ι : Type} {C : ι → Prop} {A : ι → List D} {R : ι → D} {n : Nat}
    (F : KnP B.X.prog B.X.w B.X.K B.X.mg B.X.base B.S x n C A R) {rm : Nat} (hr : Room rm B.X.A)
    (h : Ta B ρ (e :: es) fun ds => ∃ i, ds = A i ∧ C i ∧ k (R i)) (hg : Gl B.X x := by rfl)
    (hdb : (x == ("__debug__" : Str)) = false := by decide) (he : starEach (e :: es) B.X.env = (false, eval e B.X.env) :: starEach es B.X.env := by rfl) (hpl : (backTo pos (starEach es B.X.env)).any (·.1) = false := by rfl) (hrm : n ≤ rm := by decide) :
    Tk B ρ (.Call (.Name x p) (e :: es) [] pos) k := by
  refine tk_kn F hr (fun σ H G s pos pins s0 I => thn (h σ H G s pos pins s0 I) fun us s' ⟨vs, H', I', r, ds, G', g, i', rp, j, e1, c1, k1⟩ => ⟨vs, H', I', r, ds, G', g, i', rp, j, e1, c1, .inl rfl, fun _ _ z => z, fun d e => ?_⟩) hg hdb he hpl hrm
  subst e
  exact k1
end
section
variable {P : Program} {w : World} {K : PySem.W.Frag} {mg : Str → Option Value} {base : Heap} {S : Addr}
/-- a def of the text keeps its promise -/
theorem kn_def {ι : Type} {M : ι → Md} {C : ι → Prop} {A : ι → List D} {R : ι → D → Prop} {XR : ι → Addr → List (Str × D) → Prop} {x : Str} {st : Stmt} {N ps : List Str} {n : Nat} (F : At K mg x st ps)
    (Sc : FnScope N ps (defScope st)) (len : ∀ i, (A i).length = ps.length) (ρ0 : ι → List En) (h0 : ∀ i, ρ0 i = (A i).map En.val ++ List.replicate (N.length - (A i).length) En.no)
    (body : ∀ (f : Addr) (cdv : Value) (Ar : Around) (outer : List Env) (s : Shared) (H : Hp) (E : XK) (i : ι) (G : Hp), C i → Room n (Ar.deeper (envOfC x (defScope st) s.heap.objs.size f cdv)) →
      PassesOwn (model P w) (cxOf (L2.CX P w) P w K mg base N x (defScope st) f cdv Ar outer s H E).A (cxOf (L2.CX P w) P w K mg base N x (defScope st) f cdv Ar outer s H E).env (cxOf (L2.CX P w) P w K mg base N x (defScope st) f cdv Ar outer s H E).xe →
      (∀ c fs od G' H', Gr (M i).W G H G' H' → (M i).I G' H' → Xd K S G' od fs → XR i c fs → E (.ref c) od H') →
      Tss ⟨cxOf (L2.CX P w) P w K mg base N x (defScope st) f cdv Ar outer s H E, S, M i, G, H⟩ (ρ0 i) (defBody st) (Ed.ret ⟨cxOf (L2.CX P w) P w K mg base N x (defScope st) f cdv Ar outer s H E, S, M i, G, H⟩ (R i))) :
    Kn P w K mg base S x (n + 1) M C A R XR := by
  obtain ⟨f, fd, hm, F1, hb⟩ := F.ex
  exact ⟨f, fd, ps, hm, F1.kp, hb, def_ok F1 Sc len ρ0 h0 fun cdv Ar outer s H E i G hc hr po hx => body f cdv Ar outer s H E i G hc hr po hx⟩
end
end Fz
namespace Fz
open PySem PySem.Spec PyProof.Rows L2
/-! ### the law's row of draws -/
def RowOk (K : PySem.W.Frag) (r : Addr) (G H : Hp) : Prop := ∃ (a : Addr) (i m c : Int) (ns : List Int), H r = some (.lst [.ref a, .int i, .int m, .int c]) ∧ G r = none ∧ SqL K G a (ns.map V.int) ∧ ns.length ≤ 1000 ∧ 0 ≤ i ∧ 0 ≤ m ∧ 0 ≤ c
def rowM (K : PySem.W.Frag) (r : Addr) : Md where
  W := fun b => b = r
  I := RowOk K r
  nn := fun {G H b} h e => by
    obtain ⟨a, i, m, c, ns, hr, gr, _⟩ := h
    subst e
    exact ⟨gr, _, hr⟩
  st := fun {G H G' H'} h g s d k => by
    obtain ⟨a, i, m, c, ns, hr, gr, hS, rest⟩ := h
    exact ⟨a, i, m, c, ns, k r _ rfl hr, d r rfl, Same.seq g hS, rest⟩
end Fz
namespace Fz
open PySem PySem.Spec PyProof.Rows L2
/-! ### dicts that are displayed and read -/
theorem mergeK_app : ∀ (more kvs : List (Key × V)), ((kvs ++ more).map (·.1)).Nodup → mergeK kvs more = kvs ++ more
  | [], kvs, _ => by rw [List.append_nil]; rfl
  | p :: r, kvs, h => by
    have h1 : putK kvs p.1 p.2 = kvs ++ [p] := by
      unfold putK
      have hn : ¬ (kvs.any fun kv => decide (kv.1 = p.1)) = true := fun z => by
        obtain ⟨q, hq, e⟩ := List.any_eq_true.mp z
        have e := of_decide_eq_true e
        rw [List.map_append, List.nodup_append] at h
        exact h.2.2 q.1 (List.mem_map_of_mem hq) p.1 (by rw [List.map_cons]; exact List.mem_cons_self) e
      rw [if_neg hn]
    have h2 := mergeK_app r (kvs ++ [p]) (by rw [List.append_assoc]; exact h)
    show mergeK (putK kvs p.1 p.2) r = _
    rw [h1, h2, List.append_assoc]
    rfl
theorem mergeK_nil {kvs : List (Key × V)} (h : (kvs.map (·.1)).Nodup) : mergeK [] kvs = kvs := mergeK_app kvs [] h
theorem valV_at {k : Key} : ∀ {kvs : List (Key × V)} {i : Nat} {v : V}, (kvs.map (·.1)).Nodup → (kvs.map (·.1))[i]? = some k → (kvs.map (·.2))[i]? = some v → valV kvs k = some v
  | [], _, _, _, h, _ => by simp at h
  | p :: kvs, 0, v, _, h1, h2 => by
    have e1 : p.1 = k := Option.some.inj h1
    have e2 : p.2 = v := Option.some.inj h2
    rw [valV_pos e1, e2]
  | p :: kvs, i + 1, v, nd, h1, h2 => by
    rw [List.map_cons, List.nodup_cons] at nd
    have hm : k ∈ kvs.map (·.1) := List.mem_of_getElem? h1
    rw [valV_neg (fun z => nd.1 (z ▸ hm))]
    exact valV_at nd.2 h1 h2
section
variable {B : Bx} {ρ : List En} {a b c e e1 e2 e3 : Expr} {es : List Expr} {k : D → Prop} {x y : Str} {pos p p' p1 p2 p3 : Pos} {x1 x2 x3 : Str}
/-- a heap with one more own object that no slot holds -/
theorem StOk.beside {σ : L2.St} {H G : Hp} (s : StOk B ρ σ H G) {q : Addr} {o : HO} (n : H q = none) : Gr B.M.W G H G (upd H q o) ∧ B.M.I G (upd H q o) := by
  have hs : Same H (upd H q o) := same_new n
  exact ⟨⟨.refl _, s.gr.s.trans hs, fun b x _ h => hs b x h, fun _ _ _ n => n⟩, B.M.st s.inv (.refl _) (s.gr.s.trans hs) (fun b w => (B.M.nn s.inv w).1) fun b x _ h => hs b x h⟩
/-- an own object that no slot holds is changed, and stands from now on -/
theorem Kd.put {G H G1 H1 : Hp} {q : Addr} {o o' : HO} {d : D} (nq : H q = none) (g : Gr B.M.W G (upd H q o) G1 H1) (gs : Same G H) (gq : G q = none) (wq : ¬ B.M.W q) (i1 : B.M.I G1 H1) (t : Top B.X.K B.S G1 o' d) (h : k d) : Kd B G H k (.ref q) (upd H1 q o') := by
  have g1q : G1 q = none := g.d q o upd_same gq
  have hg : Same G1 (upd G1 q o') := same_new g1q
  have hs : Same (upd G1 q o') (upd H1 q o') := fun b x e => by
    by_cases hb : b = q
    · subst hb; rw [upd_same] at e ⊢; exact e
    · rw [upd_ne hb] at e ⊢; exact g.s b x e
  refine ⟨d, upd G1 q o', ⟨g.g.trans hg, hs, fun b x w e => ?_, fun b x e n => ?_⟩, B.M.st i1 hg hs (fun b w => ?_) (fun b x w e => ?_), .obj upd_same (t.mono hg), h⟩
  · rw [upd_ne (ne_of_none e nq)]
    exact g.h b x w (by rw [upd_ne (ne_of_none e nq)]; exact e)
  · rw [upd_ne (ne_of_none e nq)]
    exact g.d b x (by rw [upd_ne (ne_of_none e nq)]; exact e) n
  · rw [upd_ne (show b ≠ q from fun z => wq (by rw [← z]; exact w))]
    exact (B.M.nn i1 w).1
  · rw [upd_ne (show b ≠ q from fun z => wq (by rw [← z]; exact w))]
    exact e
theorem StOk.noW {σ : L2.St} {H G : Hp} (s : StOk B ρ σ H G) {q : Addr} (n : H q = none) : ¬ B.M.W q := fun w => by
  obtain ⟨_, o', e⟩ := B.M.nn s.inv w
  rw [n] at e; cases e
/-- {k1: e1, k2: e2, k3: e3}, the keys written texts -/
theorem tk_disp3 {j1 j2 j3} (nd : ([.inr x1, .inr x2, .inr x3] : List Key).Nodup)
    (h : Tk B ρ e1 fun d1 => Tk B ρ e2 fun d2 => Tk B ρ e3 fun d3 => k (.dct [.inr x1, .inr x2, .inr x3] [d1, d2, d3])) :
    Tk B ρ (.Dict [some (.Constant (.str x1) j1 p1), some (.Constant (.str x2) j2 p2), some (.Constant (.str x3) j3 p3)] [e1, e2, e3] pos) k := Tk.of fun σ H G s =>
  ⟨_, pe_disp (pps_cons pe_str pe_W (pps_cons pe_str pe_W (pps_cons pe_str pe_W pps_nil))) rfl rfl (fun z => by cases z) (Nat.le_of_ble_eq_true rfl), fun q nq => by
    obtain ⟨g0, i0⟩ := s.beside (o := .dK []) nq
    have s0 := s.step g0 i0
    have gq : G q = none := s.gr.s.free nq
    refine h.te s0 fun v1 d1 G1 H1 g1 i1 r1 h1 => h1.te (s0.step g1 i1) fun v2 d2 G2 H2 g2 i2 r2 h2 => h2.te ((s0.step g1 i1).step g2 i2) fun v3 d3 G3 H3 g3 i3 r3 h3 => ?_
    have gg := (g1.trans i1 g2).trans i2 g3
    refine ⟨gg.h q _ (s.noW nq) upd_same, [(.inr x1, v1), (.inr x2, v2), (.inr x3, v3)], rfl, Nat.le_of_ble_eq_true rfl, ?_⟩
    refine Kd.put nq gg s.gr.s gq (s.noW nq) i3 ?_ h3
    rw [mergeK_nil (by exact nd)]
    exact .dct rfl rfl (.cons ((r1.mono g2.g).mono g3.g) (.cons (r2.mono g3.g) (.cons r3 .nil)))⟩
/-- d["k"], the i-th key -/
def kDct (ks : List Key) (i : Nat) (k : D → Prop) : D → Prop := fun d => ∃ ds x, d = .dct ks ds ∧ ds[i]? = some x ∧ k x
theorem tk_dget {ks : List Key} {j} (i : Nat) (nd : ks.Nodup) (h : Tk B ρ a (kDct ks i k)) (hu : B.X.A.units + 1 < cLine) (hk : ks[i]? = some (.inr x) := by rfl) (hs : NoSl (.Constant (.str x) j p) := by exact fun _ _ => rfl) : Tk B ρ (.Subscript a (.Constant (.str x) j p) pos) k := Tk.of fun σ H G s =>
  ⟨_, pe_dget hu pe_W pe_str hs, h.te s fun v d G1 H1 g1 i1 r1 h1 => by
    obtain ⟨ds, y, rfl, hy, hky⟩ := h1
    obtain ⟨q, kvs, rfl, hq, e1, ra⟩ := r1.dctI
    have s1 := s.step g1 i1
    obtain ⟨w, hw, rw'⟩ := ra.get hy
    have hv := valV_at (kvs := kvs) (by rw [e1]; exact nd) (by rw [e1]; exact hk) hw
    exact ⟨q, w, rfl, by rw [← hv]; exact DGet.k (k := .inr x) (s1.gr.s _ _ hq), .back i1 g1 (.val s1.gr.s i1 rw' hky)⟩⟩
end

/-! ### instances -/
theorem putF_new {f : Str} {v : V} : ∀ {kvs : List (Str × V)}, f ∉ kvs.map (·.1) → putF f v kvs = kvs ++ [(f, v)]
  | [], _ => rfl
  | (g, w) :: r, h => by
    rw [List.map_cons, List.mem_cons, not_or] at h
    show (if g = f then _ else _) = _
    rw [if_neg (fun z => h.1 z.symm), putF_new h.2]
    rfl
section
variable {B : Bx} {ρ : List En} {e : Expr} {k : D → Prop} {x f : Str} {pos p np ap : Pos} {rest : List Stmt} {D0 : Ed}
/-- self.f = e, a new field of an instance that is being made (slot j) -/
theorem s_fst (j : Nat) {C : Addr} {fs : List Str} {ds : List D} {q0 : Option Addr} (hr : ρ[j]? = some (.ow q0 (.ins C fs ds))) (hc : Cls B.X.K C) (hn : NoAttr B.X.K C f) (nf : f ∉ fs) (hl : fs.length < 1000)
    (h : Tk B ρ e fun d => Tss B (ρ.set j (.ow q0 (.ins C (fs ++ [f]) (ds ++ [d])))) rest D0) (hN : B.X.N[j]? = some x := by rfl) (hv : Vis B.X.env.scope x := by first | exact Or.inl rfl | exact Or.inr (Or.inl rfl) | exact Or.inr (Or.inr rfl))
    (hd : (x == ("__debug__" : Str)) = false := by decide) (hcd : (x == ("__classdict__" : Str)) = false := by decide) (hs : swapsWith e (some (.Attribute (.Name x np) f ap)) pos.line B.X.env = pure false := by rfl) :
    Tss B ρ (.Assign [.Attribute (.Name x np) f ap] e pos :: rest) D0 := Tss.of fun kp σ H G s g => by
  obtain ⟨q, o, e1, e2, gp, h0, hw, t, _⟩ := s.ow j _ _ hr
  cases t with
  | @ins _ dx kvs _ xs _ h1 h2 ra =>
    refine ⟨_, ps_fld (pe_var hN hv hd hcd) pe_W hs, h.te s fun v d G' H' g' i' r' h' => ⟨.ref q, e1, q, C, dx, kvs, rfl, g'.h _ _ hw e2, hc, hn, ?_, ?_⟩⟩
    · rw [← h1, List.length_map] at hl
      exact hl
    · rw [putF_new (by rw [h1]; exact nf)]
      refine h' kp _ _ G' ((s.step g' i').change hr e1 (.ins (xs := xs ++ [v]) (by rw [List.map_append, h1]; rfl) (by rw [List.map_append, h2]; rfl) ((ra.mono g'.g).append (.one r')))) (g.trans g'.g)
end
section
variable (P : Program) (w : World) (K : PySem.W.Frag) (mg : Str → Option Value) (base : Heap) (S : Addr)
/-- __init__'s promise: the new instance at x gets the fields of R -/
def SpI (C : Addr) {ι : Type} (Cc V : ι → Prop) (A : ι → List D) (R : ι → D) (XR : ι → Addr → List (Str × D) → Prop) : Sp := fun vs H Q E => ∃ i G x dx us, Cc i ∧ Same G H ∧ G x = none ∧ H x = some (.ins C dx []) ∧ vs = .ref x :: us ∧ RepAll K S G us (A i) ∧
  (V i → ∀ o G' H', Same G G' → Same G' H' → (∀ b o, b ≠ x → H b = some o → H' b = some o) → (∀ b o, H b = some o → G b = none → G' b = none) → H' x = some o → Top K S G' o (R i) → Q .non H') ∧
  (∀ c fs od G' H', Same G G' → Same G' H' → (∀ b o, b ≠ x → H b = some o → H' b = some o) → (∀ b o, b ≠ x → H b = some o → G b = none → G' b = none) → Xd K S G' od fs → XR i c fs → E (.ref c) od H')
/-- the name x is a class whose instances are made so -/
structure KnC (x : Str) (n : Nat) (C : Addr) {ι : Type} (Cc V : ι → Prop) (A : ι → List D) (R : ι → D) (XR : ι → Addr → List (Str × D) → Prop) : Prop where
  ex : ∃ f fd ps, mg x = some (.ref C) ∧ Mk K C f ∧ Binds K fd ps [] ∧ FnOk P w K mg base (L2.CX P w) n f fd ps (SpI K S C Cc V A R XR)
end
section
variable {B : Bx} {ρ : List En} {e : Expr} {es : List Expr} {k : D → Prop} {x f : Str} {pos p : Pos} {rest : List Stmt} {D0 : Ed}
theorem same_upd2 {G H : Hp} {a b : Addr} {o u : HO} (s : Same G H) (ha : H a = none) (hb : H b = none) : Same G (upd (upd H a o) b u) := fun c z e => by
  have h1 : c ≠ a := ne_of_none (s c z e) ha
  have h2 : c ≠ b := ne_of_none (s c z e) hb
  rw [upd_ne h2, upd_ne h1]
  exact s c z e
/-- C(e, ..): the new instance -/
theorem tk_make {C : Addr} {ι : Type} {Cc V : ι → Prop} {A : ι → List D} {R : ι → D} {XR : ι → Addr → List (Str × D) → Prop} {n : Nat} (F : KnC B.X.prog B.X.w B.X.K B.X.mg B.X.base B.S x n C Cc V A R XR) {rm : Nat} (hr : Room rm B.X.A)
    (h : Ta B ρ (e :: es) fun ds => ∃ i, ds = A i ∧ Cc i ∧ (∀ c fs, ¬ XR i c fs) ∧ (V i → k (R i))) (hg : Gl B.X x := by rfl)
    (hdb : (x == ("__debug__" : Str)) = false := by decide) (he : starEach (e :: es) B.X.env = (false, eval e B.X.env) :: starEach es B.X.env := by rfl) (hpl : (backTo pos (starEach es B.X.env)).any (·.1) = false := by rfl) (hrm : n + 1 ≤ rm := by decide) :
    Tk B ρ (.Call (.Name x p) (e :: es) [] pos) k := Tk.of fun σ H G s => by
  obtain ⟨fI, fd, ps, hm, M, hb, FI⟩ := F.ex
  refine ⟨_, pe_make M FI (hr.mono hrm) hg hm hb .nil passX0 pa_W hdb he hpl, h.ta s fun vs ds G1 H1 g1 i1 r1 h1 => ?_⟩
  obtain ⟨i, rfl, ci, nx, q⟩ := h1
  have s1 := s.step g1 i1
  intro a dx na ndx ne
  rw [List.append_nil]
  have ga : G1 a = none := s1.gr.s.free na
  have h2a : upd (upd H1 dx (.own a)) a (.ins C dx []) a = some (.ins C dx []) := upd_same
  have keep : ∀ b o, H1 b = some o → upd (upd H1 dx (.own a)) a (.ins C dx []) b = some o := fun b o hb' => by
    rw [upd_ne (ne_of_none hb' na), upd_ne (ne_of_none hb' ndx)]
    exact hb'
  have wa : ¬ B.M.W a := s1.noW na
  refine ⟨i, G1, a, dx, vs, ci, same_upd2 s1.gr.s ndx na, ga, h2a, rfl, r1, fun hV o G' H' gg ss kk dd ho ht => ⟨rfl, ?_⟩, fun c fs od G' H' _ _ _ _ _ z => nx c fs z⟩
  have g'a : G' a = none := dd a _ h2a ga
  have hG : Same G' (upd G' a o) := same_new g'a
  have hS : Same (upd G' a o) H' := fun b u e => by
    by_cases hb' : b = a
    · subst hb'; rw [upd_same] at e; cases e; exact ho
    · rw [upd_ne hb'] at e; exact ss b u e
  have g2 : Gr B.M.W G1 H1 (upd G' a o) H' := ⟨gg.trans hG, hS, fun b u _ e => kk b u (ne_of_none e na) (keep b u e), fun b u e n => by
    rw [upd_ne (ne_of_none e na)]
    exact dd b u (keep b u e) n⟩
  have i2 : B.M.I (upd G' a o) H' := B.M.st i1 (gg.trans hG) hS (fun b w => by
    obtain ⟨n, u, e⟩ := B.M.nn i1 w
    exact g2.d b u e n) fun b u w e => kk b u (ne_of_none e na) (keep b u e)
  exact .back i1 g1 ⟨_, _, g2, i2, .obj upd_same (ht.mono hG), q hV⟩
end
section
variable {P : Program} {w : World} {K : PySem.W.Frag} {mg : Str → Option Value} {base : Heap}
/-- an __init__ keeps its promise; self stands in slot 0 -/
theorem ini_ok {ι : Type} {S C : Addr} {Cc V : ι → Prop} {A : ι → List D} {R : ι → D} {XR : ι → Addr → List (Str × D) → Prop} {qual : Str} {st : Stmt} {f : Addr} {fd : FuncData} {N ps : List Str} {n : Nat} (F : Fun K "__init__" qual st f fd)
    (Sc : FnScope N ps (defScope st)) (len : ∀ i, (A i).length + 1 = ps.length) (ρ0 : Addr → ι → List En) (h0 : ∀ a i, ρ0 a i = En.ow (some a) (.ins C [] []) :: ((A i).map En.val ++ List.replicate (N.length - ((A i).length + 1)) En.no))
    (body : ∀ (cdv : Value) (Ar : Around) (outer : List Env) (s : Shared) (H H0 : Hp) (E : XK) (a : Addr) (i : ι) (G : Hp), Cc i → Room n (Ar.deeper (envOfC qual (defScope st) s.heap.objs.size f cdv)) →
      PassesOwn (model P w) (cxOf (L2.CX P w) P w K mg base N qual (defScope st) f cdv Ar outer s H E).A (cxOf (L2.CX P w) P w K mg base N qual (defScope st) f cdv Ar outer s H E).env (cxOf (L2.CX P w) P w K mg base N qual (defScope st) f cdv Ar outer s H E).xe →
      (∀ c fs od G' H', Gr noW G H0 G' H' → Xd K S G' od fs → XR i c fs → E (.ref c) od H') →
      Tss ⟨cxOf (L2.CX P w) P w K mg base N qual (defScope st) f cdv Ar outer s H E, S, pur, G, H0⟩ (ρ0 a i) (defBody st) ⟨fun _ σ H' => ∃ ρ G', StOk ⟨cxOf (L2.CX P w) P w K mg base N qual (defScope st) f cdv Ar outer s H E, S, pur, G, H0⟩ ρ σ H' G' ∧ V i ∧ ∃ e, ρ = En.ow (some a) (R i) :: e, fun _ => False, fun _ _ => False⟩) :
    FnOk P w K mg base (L2.CX P w) (n + 1) f fd ps (SpI K S C Cc V A R XR) := by
  refine F.okX Sc (fun vs H Q E h => ?_) (fun cdv Ar outer s H vs Q E hr h => ⟨_, pss_W, ?_⟩)
  · obtain ⟨i, G, a, dx, us, _, _, _, _, rfl, r, _⟩ := h
    rw [List.length_cons, r.length, len i]
  · obtain ⟨i, G, a, dx, us, hc, hs, ga, ha, rfl, r, q, qx⟩ := h
    have hlN : ps.length ≤ N.length := by have := congrArg List.length Sc.pre; rw [List.length_take] at this; omega
    have hlA := r.length
    have hlp := len i
    let H0 : Hp := fun b => if b = a then none else H b
    have h00 : H0 a = none := if_pos rfl
    have h01 : ∀ {b o}, H0 b = some o → b ≠ a ∧ H b = some o := fun {b o} e => by
      by_cases hb : b = a
      · exact absurd e (by rw [hb, h00]; intro z; cases z)
      · exact ⟨hb, by have : H0 b = H b := if_neg hb; rw [← this]; exact e⟩
    have h02 : ∀ {b o}, b ≠ a → H b = some o → H0 b = some o := fun {b o} hb e => by
      have : H0 b = H b := if_neg hb
      rw [this]; exact e
    have g0 : Gr noW G H0 G H := ⟨.refl _, hs, fun b o _ e => (h01 e).2, fun _ _ _ n => n⟩
    have s0 : StOk ⟨cxOf (L2.CX P w) P w K mg base N qual (defScope st) f cdv Ar outer s H E, S, pur, G, H0⟩ (ρ0 a i) (L2.start N (.ref a :: us)) H G := by
      rw [h0 a i]
      have none_own : ∀ (j : Nat) (q1 : Option Addr) (d : D), ((A i).map En.val ++ List.replicate (N.length - ((A i).length + 1)) En.no)[j]? ≠ some (En.ow q1 d) := fun j q1 d hd => by
        by_cases hj : j < (A i).length
        · rw [List.getElem?_append_left (by rw [List.length_map]; exact hj), List.getElem?_map] at hd
          cases e : (A i)[j]? with
          | none => rw [e] at hd; cases hd
          | some d' => rw [e] at hd; cases hd
        · rw [List.getElem?_append_right (by rw [List.length_map]; omega), List.getElem?_replicate] at hd
          split at hd <;> cases hd
      refine ⟨g0, trivial, ?_, fun j d hd => ?_, fun j q1 d hd => ?_, fun i1 j1 q1 r1 d e p h1 h2 _ _ => ?_, .non0 fun j r hd => ?_⟩
      · unfold L2.start
        simp only [List.length_cons, List.length_append, List.length_map, List.length_replicate]
        omega
      · rcases j with _ | j
        · cases hd
        · rw [List.getElem?_cons_succ] at hd
          by_cases hj : j < (A i).length
          · rw [List.getElem?_append_left (by rw [List.length_map]; exact hj), List.getElem?_map] at hd
            cases e : (A i)[j]? with
            | none => rw [e] at hd; cases hd
            | some d' =>
              rw [e] at hd
              cases hd
              obtain ⟨v, hv, rv⟩ := r.get e
              refine ⟨v, ?_, rv⟩
              rw [start_get (by rw [List.length_cons]; omega), List.getElem?_cons_succ, hv]
              rfl
          · rw [List.getElem?_append_right (by rw [List.length_map]; omega), List.getElem?_replicate] at hd
            split at hd <;> cases hd
      · rcases j with _ | j
        · cases hd
          exact ⟨a, _, rfl, ha, ga, h00, fun z => z, .ins rfl rfl .nil, fun _ z => Option.some.inj z⟩
        · exact absurd hd (none_own j q1 d)
      · rcases i1 with _ | i1
        · rcases j1 with _ | j1
          · rfl
          · exact absurd h2 (none_own j1 _ e)
        · exact absurd h1 (none_own i1 _ d)
      · rcases j with _ | j
        · cases hd
        · rw [List.getElem?_cons_succ] at hd
          by_cases hj : j < (A i).length
          · rw [List.getElem?_append_left (by rw [List.length_map]; exact hj), List.getElem?_map] at hd
            cases e : (A i)[j]? with
            | none => rw [e] at hd; cases hd
            | some d' => rw [e] at hd; cases hd
          · rw [List.getElem?_append_right (by rw [List.length_map]; omega), List.getElem?_replicate] at hd
            split at hd <;> cases hd
    refine tWS_mono (body cdv Ar outer s H H0 E a i G hc hr (passes_of rfl) (fun c fs od G' H' gr hX hR => qx c fs od G' H' gr.g gr.s (fun b o hb e => gr.h b o (fun z => z) (h02 hb e)) (fun b o hb e n => gr.d b o (h02 hb e) n) hX hR) G _ H G s0 (.refl _))
      (fun σ H' z => ?_) (fun v H' z => ?_) (fun _ _ z => z.elim) (fun _ _ z => z.elim)
    · obtain ⟨ρ, G', s', hV, e, rfl⟩ := z
      obtain ⟨p, o, e1, e2, gp, _, _, t, hp⟩ := s'.ow 0 (some a) (R i) rfl
      obtain rfl := hp a rfl
      refine q hV o G' H' s'.gr.g s'.gr.s (fun b o hb e => s'.gr.h b o (fun z => z) (h02 hb e)) (fun b o e n => ?_) e2 t
      by_cases hb : b = p
      · rw [hb]; exact gp
      · exact s'.gr.d b o (h02 hb e) n
    · obtain ⟨d, G', _, _, _, z⟩ := z.resolve_right fun y => y
      exact z.elim
end
end Fz
namespace Fz
open PySem PySem.Spec PyProof.Rows L2
/-! ### try with any number of clauses, each with a name or without -/
abbrev Hnd := Value × Option Nat × (Addr → Value → Option Addr → TS)
/-- the slot of a clause's name is emptied behind the suite -/
def clr (i : Nat) (D : Ends) : Ends := ⟨fun σ H => D.nx (σ.set i none) H, D.rt, fun σ H => D.bk (σ.set i none) H, fun σ H => D.ct (σ.set i none) H⟩
def wHnd (K : PySem.W.Frag) (Wo : WX) (D : Ends) : List Hnd → WX
  | [] => Wo
  | (c, nm, ts) :: more => fun cls d σ H => ∃ b, PySem.W.exmOne K cls c = some b ∧ (b = false → wHnd K Wo D more cls d σ H) ∧
      (b = true → ∀ a, H a = none → match nm with
        | none => ts a cls d D σ H
        | some i => ts a cls d (clr i D) (σ.set i (some (.ref a))) H)
inductive Clauses (X : Cx) : List ExceptHandler → List Hnd → Prop
  | nil : Clauses X [] []
  | bare {x : Str} {c : Value} {ts : Addr → Value → Option Addr → TS} {b0 : Stmt} {su : List Stmt} {np hp : Pos} {hds : List ExceptHandler} {l : List Hnd} (hc : Names X x c)
      (run : ∀ (a : Addr) (oe : Obj) (cls : Value) (d : Option Addr) (pn : List (Addr × Obj)), Zc cls d oe → (∃ vs, oe.data = .fields vs) → PSs (X.suite a ((a, oe) :: pn)) (b0 :: su) (ts a cls d)) (t : Clauses X hds l) :
      Clauses X (.ExceptHandler (some (.Name x np)) none (b0 :: su) hp :: hds) ((c, none, ts) :: l)
  | named {x n : Str} {c : Value} {i : Nat} {ts : Addr → Value → Option Addr → TS} {b0 : Stmt} {su : List Stmt} {np hp : Pos} {hds : List ExceptHandler} {l : List Hnd} (hc : Names X x c) (hN : X.N.Nodup) (hi : X.N[i]? = some n) (hn : X.env.kindOf n = some .local)
      (run : ∀ (a : Addr) (oe : Obj) (cls : Value) (d : Option Addr) (pn : List (Addr × Obj)), Zc cls d oe → (∃ vs, oe.data = .fields vs) → PSs (X.suite a ((a, oe) :: pn)) (b0 :: su) (ts a cls d)) (t : Clauses X hds l) :
      Clauses X (.ExceptHandler (some (.Name x np)) (some n) (b0 :: su) hp :: hds) ((c, some i, ts) :: l)
section
variable {X : Cx} {pins : List (Addr × Obj)} {D : Ends} {Wo : WX}
/-- an exception that has come down to a frame X with slots σ over H -/
structure Down (X : Cx) (pins : List (Addr × Obj)) (σ : L2.St) (H : Hp) (a : Addr) (cls : Value) (d : Option Addr) (G : Heap) (s0 s : Shared) (h : Heap) : Prop where
  inv : Inv X pins σ H s0
  ground : ∀ b o, s0.heap.get? b = some o → b ∉ frs X.stack → G.get? b = some o
  upto : s0.heap.UpToSlots h
  fly : HandSPX.FlyingZ G (X.env :: X.outer) a (Zc cls d) h
  out : H a = none
  os : s.os = s0.os
  bare : AllBare s.gens
variable {σ : L2.St} {H : Hp} {a : Addr} {cls : Value} {d : Option Addr} {G : Heap} {s0 s : Shared} {h : Heap}
theorem Down.now (w : Down X pins σ H a cls d G s0 s h) : Inv X pins σ H { s with heap := h } := w.inv.landed w.ground w.fly.1 w.upto w.os w.bare
theorem Down.apart (w : Down X pins σ H a cls d G s0 s h) (hf : X.env.frame = some X.env.locals) : a ≠ X.env.locals ∧ a ∉ X.fs := by
  obtain ⟨oe, vs, he, _, hdat⟩ := w.fly.there
  have key : ∀ e ∈ X.env :: X.outer, e.frame = some a → False := fun e me ef => by
    have hm : a ∈ frs (X.env :: X.outer) := List.mem_filterMap.mpr ⟨e, me, ef⟩
    obtain ⟨_, o', q, nf⟩ := w.fly.2.2.1.mem hm
    cases he.symm.trans q
    exact nf _ hdat
  refine ⟨fun z => key X.env (.head _) (hf.trans (congrArg some z.symm)), fun hm => ?_⟩
  obtain ⟨e, me, ef⟩ := List.mem_filterMap.mp hm
  exact key e (.tail _ me) ef
/-- all clauses in turn -/
theorem clauses_run (hs : X.stack = X.env :: X.outer) (hf : X.env.frame = some X.env.locals) (tk : Takes X Wo) {hds : List ExceptHandler} {l : List Hnd} (C : Clauses X hds l) (w : Down X pins σ H a cls d G s0 s h) (hw : wHnd X.K Wo D l cls d σ H) :
    wpAny (model X.prog X.w) X.A (handleBy (.ref a) X.env hds) (SP X pins D) X.xe { s with heap := h } := by
  have okX := w.inv.ok
  obtain ⟨nl, nf⟩ := w.apart hf
  obtain ⟨oe, vs, he, hz, hdat⟩ := w.fly.there
  have inS := w.now.suite he hdat w.out nl nf
  have isC : PySem.W.Looks (model X.prog X.w) h (typeOf (.ref a)) cls := fun A' Q' E' s' kk qq => wpAny_typeOf_ref (kk _ _ he) (by rw [hz.1]; exact qq)
  -- the class that a clause names
  have see : ∀ {x : Str} {c : Value} {np : Pos} {Q' : Value → Shared → Prop} {E' : Value → Shared → Prop}, Names X x c → Q' c { s with heap := h } → wpAny (model X.prog X.w) (X.A.mark (some (.ref a))) (eval (.Name x np) X.env) Q' E' { s with heap := h } := by
    rintro x c np Q' E' ⟨gl, dbg, own | ⟨no, bo, nm⟩⟩ q
    · exact ld_glob (X := X.suite a ((a, oe) :: (X.pn ++ pins))) inS gl own q dbg
    · exact ld_blt (X := X.suite a ((a, oe) :: (X.pn ++ pins))) inS gl no bo q nm dbg
  induction C with
  | nil =>
    refine wpAny_handleBy_nil ?_
    obtain ⟨_, _, _, o2, v2, _, _, _, g1, _, g3, g4, _⟩ := id w.fly
    have lift : wpAny (model X.prog X.w) X.A (setFlight (.ref a) X.env.frame) (fun _ s4 => wpAny (model X.prog X.w) X.A (throw (.ref a) : Sem Flow) (SP X pins D) X.xe s4) X.xe { s with heap := h } := by
      rw [hf]
      exact HandSPX.setFlight_upZ w.fly fun h4 held up4 => wpAny_throw (tk _ _ ⟨a, G, s0, pins, σ, H, cls, d, rfl, w.inv, w.ground, w.upto.trans up4, .inr (.inr (by rw [hs]; exact held)), w.out, w.os, w.bare, hw⟩)
    unfold PySem.passOn
    refine wpAny_bind (wpAny_field g1 g3 g4 ?_)
    rw [if_neg (by simp)]
    first
      | exact wpAny_bind (wpAny_pure (wpAny_bind lift))
      | exact wpAny_bind lift
  | @bare x c ts b0 su np hp hds' l' hc run t ih =>
    obtain ⟨b, hb, no, yes⟩ := hw
    refine wpAny_handleBy_cons (codeAny_handlers_test (see hc ((PySem.W.exm_one (M := model X.prog X.w) w.now.kIn isC hb).here ?_))) (fun z => nomatch z)
    cases b with
    | false => exact ih (no rfl)
    | true =>
      refine codeAny_handlers_suite (HandSPX.lands_againZ w.fly fun h4 fly4 up4 => ?_)
      have w4 : Down X pins σ H a cls d G s0 s h4 := ⟨w.inv, w.ground, w.upto.trans up4, fly4, w.out, w.os, w.bare⟩
      obtain ⟨o4, v4, e4, z4, d4⟩ := fly4.there
      refine wpAny_mono ((run a o4 cls d (X.pn ++ pins) z4 ⟨v4, d4⟩).run [] _ σ H D (w4.now.suite e4 d4 w.out nl nf) (yes rfl a w.out)) (fun f s6 hsp => ?_) fun _ _ z => z.elim
      match f, hsp with
      | .next, ⟨σ6, H6, i6, q6⟩ => exact ⟨σ6, H6, i6.unsuite okX, q6⟩
      | .brk, ⟨σ6, H6, i6, q6⟩ => exact ⟨σ6, H6, i6.unsuite okX, q6⟩
      | .cont, ⟨σ6, H6, i6, q6⟩ => exact ⟨σ6, H6, i6.unsuite okX, q6⟩
      | .ret u, ⟨v6, σ6, H6, i6, r6, q6⟩ => exact ⟨v6, σ6, H6, i6.unsuite okX, r6, q6⟩
  | @named x n c i ts b0 su np hp hds' l' hc hN hi hn run t ih =>
    obtain ⟨b, hb, no, yes⟩ := hw
    refine wpAny_handleBy_cons (codeAny_handlers_test (see hc ((PySem.W.exm_one (M := model X.prog X.w) w.now.kIn isC hb).here ?_))) (fun z => nomatch z)
    cases b with
    | false => exact ih (no rfl)
    | true =>
      refine codeAny_handlers_suite_as (HandSPX.lands_againZ w.fly fun h4 fly4 up4 => ?_)
      have w4 : Down X pins σ H a cls d G s0 s h4 := ⟨w.inv, w.ground, w.upto.trans up4, fly4, w.out, w.os, w.bare⟩
      obtain ⟨o4, v4, e4, z4, d4⟩ := fly4.there
      refine store_ok (X := X.suite a ((a, o4) :: (X.pn ++ pins))) (v := .ref a) (w4.now.suite e4 d4 w.out nl nf) hN hi (.inl hn) rfl (fun s5 i5 => ?_) (.inr hn)
      refine wpAny_mono ((run a o4 cls d (X.pn ++ pins) z4 ⟨v4, d4⟩).run [] s5 _ H (clr i D) i5 (yes rfl a w.out)) (fun f s6 hsp => ?_) fun _ _ z => z.elim
      match f, hsp with
      | .next, ⟨σ6, H6, i6, q6⟩ => exact gone_ok (i6.unsuite okX) hN hi hn fun s7 i7 => ⟨_, H6, i7, q6⟩
      | .brk, ⟨σ6, H6, i6, q6⟩ => exact gone_ok (i6.unsuite okX) hN hi hn fun s7 i7 => ⟨_, H6, i7, q6⟩
      | .cont, ⟨σ6, H6, i6, q6⟩ => exact gone_ok (i6.unsuite okX) hN hi hn fun s7 i7 => ⟨_, H6, i7, q6⟩
      | .ret u, ⟨v6, σ6, H6, i6, r6, q6⟩ => exact gone_ok (i6.unsuite okX) hN hi hn fun s7 i7 => ⟨v6, _, H6, i7, r6, q6⟩
theorem ps_tryAny {body : List Stmt} {h0 : ExceptHandler} {hds : List ExceptHandler} {l : List Hnd} {pos : Pos} {tb : WX → TS} (hs : X.stack = X.env :: X.outer) (hf : X.env.frame = some X.env.locals) (tk : Takes X Wo)
    (hb : ∀ (W : WX) (pn : List (Addr × Obj)) (xe : Value → Shared → Prop), Takes (X.tr pn xe) W → PassesOwn (model X.prog X.w) X.A X.env xe → PSs (X.tr pn xe) body (tb W)) (C : Clauses X (h0 :: hds) l) :
    PS X (.Try body (h0 :: hds) [] [] pos) (fun D σ H => tb (wHnd X.K Wo D l) D σ H) := by
  refine ⟨fun pins s σ H D I h => ?_⟩
  have okX := I.ok
  let xe' : Value → Shared → Prop := fun e s1 => wpAny (model X.prog X.w) X.A (noteFrame e X.env) (fun _ s2 => wpAny (model X.prog X.w) X.A (setFlight e none) (fun _ s3 => wpAny (model X.prog X.w) X.A (handleBy e X.env (h0 :: hds)) (SP X pins D) X.xe s3) X.xe s2) X.xe s1
  have take : Takes (X.tr (X.pn ++ pins) xe') (wHnd X.K Wo D l) := by
    rintro u s' ⟨a, G, sI, pins', σ', H', cls, d, rfl, J', nb, up, sky, na, os, ag, w⟩
    show wpAny (model X.prog X.w) X.A (noteFrame (.ref a) X.env) _ _ _
    refine Sky.land Zc.steady (okX.frames.trans (congrArg some hs)) hf (by rw [← hs]; exact sky) fun h3 fl3 up3 => ?_
    exact clauses_run hs hf tk C ⟨J'.ofTry okX, nb, up.trans up3, fl3, na, os, ag⟩ w
  refine wpAny_Try_except (wpAny_mono ((hb _ _ xe' take PassesOwn.looking).run [] s σ H D (I.toTry _) h) (fun f s1 hsp => ?_) fun _ _ z => z)
  match f, hsp with
  | .next, ⟨σ6, H6, i6, q6⟩ => exact wpAny_execs_nil ⟨σ6, H6, i6.ofTry okX, q6⟩
  | .brk, ⟨σ6, H6, i6, q6⟩ => exact ⟨σ6, H6, i6.ofTry okX, q6⟩
  | .cont, ⟨σ6, H6, i6, q6⟩ => exact ⟨σ6, H6, i6.ofTry okX, q6⟩
  | .ret u, ⟨v6, σ6, H6, i6, r6, q6⟩ => exact ⟨v6, σ6, H6, i6.ofTry okX, r6, q6⟩
end
end Fz
namespace Fz
open PySem PySem.Spec PyProof.Rows L2
/-! ### exceptions that go out -/
/-- the frame takes what XR tells -/
def Rz (B : Bx) (ρ : List En) (XR : Addr → List (Str × D) → Prop) : Prop := ∃ W : WX, Takes B.X W ∧ ∀ c fs od σ H' G', StOk B ρ σ H' G' → Xd B.X.K B.S G' od fs → XR c fs → W (.ref c) od σ H'
theorem rz_def {P : Program} {w : World} {K : PySem.W.Frag} {mg : Str → Option Value} {base : Heap} {S : Addr} {N : List Str} {q : Str} {sc} {f : Addr} {cdv : Value} {Ar : Around} {outer : List Env} {s : Shared} {H H0 G : Hp} {E : XK} {M : Md} {ρ : List En} {XR : Addr → List (Str × D) → Prop}
    (hx : ∀ c fs od G' H', Gr M.W G H0 G' H' → M.I G' H' → Xd K S G' od fs → XR c fs → E (.ref c) od H') : Rz ⟨cxOf (L2.CX P w) P w K mg base N q sc f cdv Ar outer s H E, S, M, G, H0⟩ ρ XR :=
  ⟨fun cls d _ H' => E cls d H', takes_of rfl rfl rfl rfl, fun c fs od σ H' G' st xd z => hx c fs od G' H' st.gr st.inv xd z⟩
theorem Rz.imp {B : Bx} {ρ : List En} {XR YR : Addr → List (Str × D) → Prop} (r : Rz B ρ YR) (h : ∀ c fs, XR c fs → YR c fs) : Rz B ρ XR := by
  obtain ⟨W, t, q⟩ := r
  exact ⟨W, t, fun c fs od σ H' G' s x z => q c fs od σ H' G' s x (h c fs z)⟩
section
variable {B : Bx} {ρ : List En} {a b c e : Expr} {es : List Expr} {k : D → Prop} {x y f : Str} {pos p p' p1 p2 ap : Pos} {rest : List Stmt} {D0 : Ed}
/-- a call that may raise -/
theorem tk_knX {ι : Type} {M : ι → Md} {C : ι → Prop} {A : ι → List D} {R : ι → D → Prop} {XR : ι → Addr → List (Str × D) → Prop} {YR : Addr → List (Str × D) → Prop} {n : Nat}
    (F : Kn B.X.prog B.X.w B.X.K B.X.mg B.X.base B.S x n M C A R XR) {rm : Nat} (hr : Room rm B.X.A) (rz : Rz B ρ YR)
    (h : Ta B ρ (e :: es) fun ds => ∃ i, ds = A i ∧ C i ∧ Sub (M i) B.M ∧ (∀ c fs, XR i c fs → YR c fs) ∧ ∀ d, R i d → k d) (hg : Gl B.X x := by rfl)
    (hdb : (x == ("__debug__" : Str)) = false := by decide) (he : starEach (e :: es) B.X.env = (false, eval e B.X.env) :: starEach es B.X.env := by rfl) (hpl : (backTo pos (starEach es B.X.env)).any (·.1) = false := by rfl) (hrm : n ≤ rm := by decide) :
    Tk B ρ (.Call (.Name x p) (e :: es) [] pos) k := by
  obtain ⟨f, fd, ps, hm, hk, hb, F⟩ := F.ex
  obtain ⟨W, tk, hW⟩ := rz
  refine Tk.of fun σ H G s => ⟨_, pe_callS (E := WE W) F (hr.mono hrm) hg hm hk hb (passAt tk) pa_W hdb he hpl, h.ta s fun vs ds G1 H1 g1 i1 r1 h1 => ?_⟩
  obtain ⟨i, rfl, ci, sb, hx, q⟩ := h1
  have s1 := s.step g1 i1
  refine ⟨i, G1, ci, s1.gr.s, sb.inn i1, r1, fun v d G' H' g j r hR => ?_, fun c fs od G' H' g j xd z => ?_⟩
  · obtain ⟨g', j'⟩ := sb.up i1 g j
    exact .back i1 g1 ⟨d, G', g', j', r, q d hR⟩
  · obtain ⟨g', j'⟩ := sb.up i1 g j
    exact hW c fs od σ H' G' (s1.step g' j') xd (hx c fs z)
end
/-! ### classes of exceptions -/
/-- what the base class of all errors must have -/
structure PeC (K : PySem.W.Frag) (mg : Str → Option Value) : Prop where
  ex : ∃ (C0 : Addr) (mc : Value), mg "ParcelError" = some (.ref C0) ∧ PySem.W.specialIn K (.ref C0) "__getattribute__" = some (some (.builtin "type.__getattribute__")) ∧ PySem.W.readsIn K C0 mc = true ∧ PySem.W.findCls K (.ref C0) mc "__init__" = some (.val (.builtin "ValueError.__init__"))
section
variable {X : Cx} {o e : Expr} {es : List Expr} {ta : TA} {p p1 p2 pos : Pos}
theorem pe_peinit {pl : Sem Bool} (hg : Gl X "ParcelError") (F : PeC X.K X.mg) (ha : PA X (e :: es) ta)
    (hc : eval (.Call (.Attribute (.Name "ParcelError" p1) "__init__" p2) (e :: es) [] pos) X.env = (do
      let ov ← eval (.Name "ParcelError" p1) X.env
      standAt p2.atName
      let (f, first) ← holding [ov] (getMethod ov "__init__" pl)
      callWith pos f first (backTo pos (starEach (e :: es) X.env)) (backToKw pos (keywordEach [] X.env))) := by rfl)
    (he : starEach (e :: es) X.env = (false, eval e X.env) :: starEach es X.env := by rfl) (hpl : (backTo pos (starEach es X.env)).any (·.1) = false := by rfl) :
    PE X (.Call (.Attribute (.Name "ParcelError" p1) "__init__" p2) (e :: es) [] pos) (tVeI X.K ta) := by
  obtain ⟨C0, mc, hm, hsp, hrd, hfc⟩ := F.ex
  refine ⟨fun pins s σ H Q I h => PySem.W.methodCall_KW (ld_glob I hg hm ?_ (by decide)) hc⟩
  refine PySem.W.method_cls I.kIn hsp (PySem.W.cls_value I.kIn hrd hfc (by decide) ?_)
  show wpAny _ _ (callWith pos (.builtin "ValueError.__init__") [] (backTo pos (starEach (e :: es) X.env)) []) _ _ _
  refine PyProof.Rows.callWith_method1 (thn (ha.run pos pins _ σ H _ (I.tok _) h) fun us s1 hh => ?_) he hpl
  obtain ⟨vs, H1, I1, r1, a, C, ws, rfl, hl, T, ea, q⟩ := hh
  cases r1 with
  | @cons _ u0 _ ur ra rw' =>
    obtain rfl : u0 = .ref a := ra
    refine oinit_ok T I1 ea ?_ fun s' J => ⟨.non, H1, J, rfl, q⟩
    rw [← Paired.length rw', sizeLine_eq]
    omega
end
section
variable (P : Program) (w : World) (K : PySem.W.Frag) (mg : Str → Option Value) (base : Heap)
/-- what the __init__ of an error with the fields ks does -/
def SpE (C : Addr) (ks : List Str) : Sp := fun vs H Q _ => ∃ a us, vs = .ref a :: us ∧ us.length = ks.length ∧ OexC K C ∧ H a = some (exo a C none) ∧ (ks = [] → Q .non H) ∧
  (ks ≠ [] → ∀ dx H', H dx = none → dx ≠ a → (∀ b, b ≠ a → b ≠ dx → H' b = H b) → H' a = some (exo a C (some dx)) → H' dx = some (exd dx (ks.zip us).reverse) → Q .non H')
/-- x is an error's class with the fields ks -/
structure KnE (x : Str) (n : Nat) (C : Addr) (ks : List Str) : Prop where
  ex : ∃ f fd ps, mg x = some (.ref C) ∧ OexC K C ∧ PySem.W.findIn K (.ref C) "__init__" = some (some (.ref f)) ∧ PySem.W.typeIn K (.ref f) = some (.type "function") ∧ Binds K fd ps [] ∧ FnOk P w K mg base (L2.CX P w) n f fd ps (SpE K C ks)
/-- where it stands in the text -/
structure AtE (x qual : Str) (C : Addr) (st : Stmt) (ks : List Str) : Prop where
  ex : ∃ f fd, mg x = some (.ref C) ∧ OexC K C ∧ PySem.W.findIn K (.ref C) "__init__" = some (some (.ref f)) ∧ PySem.W.typeIn K (.ref f) = some (.type "function") ∧ (∀ y ∈ ks, PySem.W.findIn K (.ref C) y = some none) ∧ Fun K "__init__" qual st f fd ∧ Binds K fd (("self" : Str) :: ks) []
end
section
variable {P : Program} {w : World} {K : PySem.W.Frag} {mg : Str → Option Value} {base : Heap}
theorem kne_of {x qual : Str} {C : Addr} {st : Stmt} {ks N : List Str} {n : Nat} (F : AtE K mg x qual C st ks) (Sc : FnScope N (("self" : Str) :: ks) (defScope st)) (hN : N = ("self" : Str) :: ks)
    (body : OexC K C → (∀ y ∈ ks, PySem.W.findIn K (.ref C) y = some none) → ∀ (f : Addr) (cdv : Value) (Ar : Around) (outer : List Env) (s : Shared) (H H0 : Hp) (E : XK) (a : Addr) (us : List V) (Q : VK), us.length = ks.length → H0 a = some (exo a C none) →
      ∃ t, PSs (cxOf (L2.CX P w) P w K mg base N qual (defScope st) f cdv Ar outer s H E) (defBody st) t ∧ ∀ D : Ends, (D.nx = fun _ H' => Q .non H') → (ks = [] → Q .non H0) →
        (ks ≠ [] → ∀ dx H', H0 dx = none → dx ≠ a → (∀ b, b ≠ a → b ≠ dx → H' b = H0 b) → H' a = some (exo a C (some dx)) → H' dx = some (exd dx (ks.zip us).reverse) → Q .non H') → t D (L2.start N (.ref a :: us)) H0) : KnE P w K mg base x (n + 1) C ks := by
  obtain ⟨f, fd, hm, T, hI, hT, hn, F1, hb⟩ := F.ex
  refine ⟨f, fd, _, hm, T, hI, hT, hb, F1.okX Sc (fun vs H Q E h => ?_) (fun cdv Ar outer s H vs Q E hr h => ?_)⟩
  · obtain ⟨a, us, rfl, hl, _⟩ := h
    rw [List.length_cons, List.length_cons, hl]
  · obtain ⟨a, us, rfl, hl, _, ha, q0, q1⟩ := h
    obtain ⟨t, ht, q⟩ := body T hn f cdv Ar outer s H H E a us Q hl ha
    exact ⟨t, ht, q _ rfl q0 q1⟩
end
section
variable {B : Bx} {ρ : List En} {a b c e : Expr} {es : List Expr} {k : D → Prop} {x y f : Str} {pos pos' p p' p1 p2 ap : Pos} {rest : List Stmt} {D0 : Ed}
theorem zip_rep {K : PySem.W.Frag} {S : Addr} {G : Hp} : ∀ {ks : List Str} {vs : List V} {ds : List D}, RepAll K S G vs ds → ds.length = ks.length → (ks.zip vs).map (·.1) = (ks.zip ds).map (·.1) ∧ RepAll K S G ((ks.zip vs).map (·.2)) ((ks.zip ds).map (·.2))
  | [], _, _, _, _ => ⟨rfl, .nil⟩
  | k :: ks, _, _, .nil, h => by cases h
  | k :: ks, _, _, .cons (v := v) (d := d) r ra, h => by
    obtain ⟨h1, h2⟩ := zip_rep (ks := ks) ra (Nat.succ.inj h)
    exact ⟨congrArg (k :: ·) h1, .cons r h2⟩
/-- raise C(e, ..) -/
theorem s_raise {C : Addr} {ks : List Str} {n : Nat} {YR : Addr → List (Str × D) → Prop} (F : KnE B.X.prog B.X.w B.X.K B.X.mg B.X.base x n C ks) {rm : Nat} (hr : Room rm B.X.A) (rz : Rz B ρ YR) (hc : B.X.calm = true) (hne : ks ≠ []) (h9 : ks.length ≤ 1000)
    (h : Ta B ρ (e :: es) fun ds => ds.length = ks.length ∧ YR C (ks.zip ds).reverse) (hg : Gl B.X x := by rfl)
    (hdb : (x == ("__debug__" : Str)) = false := by decide) (he : starEach (e :: es) B.X.env = (false, eval e B.X.env) :: starEach es B.X.env := by rfl) (hpl : (backTo pos (starEach es B.X.env)).any (·.1) = false := by rfl) (hrm : n + 1 ≤ rm := by decide) :
    Tss B ρ (.Raise (some (.Call (.Name x p) (e :: es) [] pos)) none pos' :: rest) D0 := by
  obtain ⟨f, fd, ps, hm, T, hI, hT, hb, FI⟩ := F.ex
  obtain ⟨W, tk, hW⟩ := rz
  refine Tss.of fun kp σ H G s g => ⟨_, ps_raise hc tk (pmk_oex T hI hT FI (hr.mono hrm) hb .nil passX0 hg hm pa_W hdb he hpl), h.ta s fun vs ds G1 H1 g1 i1 r1 h1 => ?_⟩
  obtain ⟨hl, hy⟩ := h1
  have s1 := s.step g1 i1
  refine ⟨by rw [r1.length, hl]; exact h9, fun q nq => ?_⟩
  rw [List.append_nil]
  refine ⟨q, vs, rfl, by rw [r1.length, hl], T, upd_same, fun z => absurd z hne, fun _ dx H' nd dne keep ha hd => ⟨rfl, dx, (ks.zip vs).reverse, ha, hd, by rw [upd_ne dne] at nd; exact nd, ?_⟩⟩
  have nd1 : H1 dx = none := by rw [upd_ne dne] at nd; exact nd
  have eH : upd (del H' q) dx (.xd (ks.zip vs).reverse) = upd H1 dx (.xd (ks.zip vs).reverse) := by
    funext b
    by_cases hb' : b = dx
    · rw [hb', upd_same, upd_same]
    · rw [upd_ne hb', upd_ne hb']
      by_cases hq : b = q
      · rw [hq, del_same, nq]
      · rw [del_ne hq, keep b hq hb', upd_ne hq]
  rw [eH]
  obtain ⟨g2, i2⟩ := (Gr.new (o := .xd (ks.zip vs).reverse) s1.gr.s nd1).up i1
  obtain ⟨z1, z2⟩ := zip_rep (r1.mono g2.g) hl
  refine hW C _ _ σ _ _ (s1.step g2 i2) ⟨_, upd_same, ?_, ?_⟩ hy
  · rw [List.map_reverse, List.map_reverse, z1]
  · rw [List.map_reverse, List.map_reverse]
    exact z2.reverse
end
end Fz
namespace Fz
open PySem PySem.Spec PyProof.Rows L2
/-! ### the law's row is laid -/
section
variable {B : Bx} {ρ : List En} {es : List Expr} {x : Str} {pos p' lp : Pos} {rest : List Stmt}
/-- a box that starts later, and writes to the row -/
abbrev Bx.row (B : Bx) (q : Addr) (G H : Hp) : Bx := ⟨B.X, B.S, rowM B.X.K q, G, H⟩
theorem Kd.unrow {q : Addr} {G1 H1 G H : Hp} {R : D → Prop} {v : V} {H' : Hp} (hM : B.M = pur) (g : Gr noW B.G0 B.H0 G1 H1) (nq : H1 q = none) (gG : Same G1 G) (gH : Same G H) (hk : ∀ b o, b ≠ q → H1 b = some o → H b = some o) (hd : ∀ b o, H1 b = some o → G1 b = none → G b = none) (h : Kd (B.row q G H) G H R v H') : Kd B B.G0 B.H0 R v H' := by
  obtain ⟨d, G', g', i', r, hR⟩ := h
  have hG : ∀ b o, B.H0 b = some o → b ≠ q := fun b o e z => by
    have := g.h b o (fun z => z) e
    rw [z, nq] at this
    cases this
  refine ⟨d, G', ⟨(g.g.trans gG).trans g'.g, g'.s, fun b o _ e => ?_, fun b o e n => ?_⟩, ?_, r, hR⟩
  · exact g'.h b o (fun z => hG b o e z) (hk b o (hG b o e) (g.h b o (fun z => z) e))
  · have e1 := g.h b o (fun z => z) e
    exact g'.d b o (hk b o (hG b o e) e1) (hd b o e1 (g.d b o e n))
  · rw [hM]; trivial
theorem s_row {ns : List Int} {m : Int} {n : Nat} {R : D → Prop} (hM : B.M = pur) (hm : 0 ≤ m) (hl : ns.length ≤ 1000)
    (h : Ta B (.val (.rdl (ns.map .int)) :: List.replicate (n + 1) .no) es fun ds => ds = [.rdl (ns.map .int), .int 0, .int m, .int 0])
    (h2 : ∀ q G H, Tss (B.row q G H) (.val (.rdl (ns.map .int)) :: .val (.ref q) :: List.replicate n .no) rest (Ed.ret (B.row q G H) R)) (hN : B.X.N.Nodup) (hi : B.X.N[1]? = some x := by rfl) (hx : Loc B.X.env.scope x := by first | exact .inl rfl | exact .inr rfl)
    (hs : swapsWith (.List es lp) (some (.Name x p')) pos.line B.X.env = pure false := by rfl) (hf : B.X.fn x = true ∨ B.X.env.scope.names.lookup x = some .local := by first | exact .inl rfl | exact .inr rfl) :
    Tss B (.val (.rdl (ns.map .int)) :: List.replicate (n + 1) .no) (.Assign [.Name x p'] (.List es lp) pos :: rest) (Ed.ret B R) := Tss.of fun kp σ H G s g => by
  refine ⟨_, ps_set hN hi hx (pe_lst pa_W) hs hf, h.ta s fun vs ds G' H' g' i' r' h' => ⟨by rw [r'.length, h']; exact Nat.le_of_ble_eq_true rfl, fun q nq => ?_⟩⟩
  subst h'
  cases r' with | cons r1 r' => cases r' with | cons r2 r' => cases r' with | cons r3 r' => cases r' with | cons r4 r' =>
  cases r'
  obtain ⟨a, xs, rfl, ha, ra⟩ := r1.rdlI
  obtain rfl := ra.mapInt
  obtain rfl := r2.intI
  obtain rfl := r3.intI
  obtain rfl := r4.intI
  have s1 := s.step g' i'
  have gq : G' q = none := s1.gr.s.free nq
  have nH : Same G' (upd H' q (.lst [.ref a, .int 0, .int m, .int 0])) := s1.gr.s.trans (same_new nq)
  have none_own : ∀ (j : Nat) (q0 : Option Addr) (d : D), (En.val (.rdl (ns.map .int)) :: En.val (.ref q) :: List.replicate n En.no)[j]? ≠ some (.ow q0 d) := fun j q0 d e => by
    rcases j with _ | _ | j
    · cases e
    · cases e
    · rw [List.getElem?_cons_succ, List.getElem?_cons_succ, List.getElem?_replicate] at e
      split at e <;> cases e
  have hl2 : (σ.set 1 (some (.ref q))).length = n + 2 := by
    rw [List.length_set, s.len, List.length_cons, List.length_replicate]
  have st : StOk (B.row q G' (upd H' q (.lst [.ref a, .int 0, .int m, .int 0]))) (.val (.rdl (ns.map .int)) :: .val (.ref q) :: List.replicate n .no) (σ.set 1 (some (.ref q))) (upd H' q (.lst [.ref a, .int 0, .int m, .int 0])) G' := by
    refine ⟨.refl nH, ⟨a, 0, m, 0, ns, upd_same, gq, ha, hl, by decide, hm, by decide⟩, ?_, fun j d e => ?_, fun j q0 d e => absurd e (none_own j q0 d), fun i1 j1 q1 r1 d e p e1 _ _ _ => absurd e1 (none_own i1 q1 d), .non0 fun j r e => ?_⟩
    · rw [hl2, List.length_cons, List.length_cons, List.length_replicate]
    · rcases j with _ | _ | j
      · cases e
        obtain ⟨v, e1, rv⟩ := s1.va 0 _ rfl
        exact ⟨v, by rw [List.getElem?_set_ne (by decide)]; exact e1, rv⟩
      · cases e
        exact ⟨.ref q, List.getElem?_set_self (by rw [List.length_set] at hl2; omega), .ref q⟩
      · rw [List.getElem?_cons_succ, List.getElem?_cons_succ, List.getElem?_replicate] at e
        split at e <;> cases e
    · rcases j with _ | _ | j
      · cases e
      · cases e
      · rw [List.getElem?_cons_succ, List.getElem?_cons_succ, List.getElem?_replicate] at e
        split at e <;> cases e
  have gr : Gr noW B.G0 B.H0 G' H' := by
    have := s1.gr
    rw [hM] at this
    exact this
  have un : ∀ v H2, Kd (B.row q G' (upd H' q (.lst [.ref a, .int 0, .int m, .int 0]))) G' (upd H' q (.lst [.ref a, .int 0, .int m, .int 0])) R v H2 → Kd B B.G0 B.H0 R v H2 := fun v H2 z =>
    Kd.unrow hM gr nq (.refl _) nH (fun b o hb e => by rw [upd_ne hb]; exact e) (fun b o _ n => n) z
  exact tWS_mono (h2 q G' _ G' _ _ G' st (.refl _)) (fun _ H2 z => un _ H2 z) (fun v H2 z => z.imp (un v H2) id) (fun _ _ z => z.elim) (fun _ _ z => z.elim)
end
end Fz
namespace Fz
open PySem PySem.Spec PyProof.Rows L2
/-! ### what the program's top has written -/
section
variable {K : PySem.W.Frag} {h : Heap} {mg : Str → Option Value} {S : Addr} {x qual : Str} {st : Stmt} {f C : Addr}
theorem co_int {i : Int} {t} (X : K.In h) (G : h.Ns mainGlobals mg) (a : PySem.W.nsIn K mainGlobals x = some (some (.int i t))) : Co K mg S x (.int i) :=
  ⟨_, .int i, PySem.W.mg_of X G a, ⟨t, rfl⟩, fun _ => .int i⟩
theorem co_pair {i j : Int} {d : Option Addr} {n : Nat} {sl t1 t2} {p : Addr} (X : K.In h) (G : h.Ns mainGlobals mg) (a : PySem.W.nsIn K mainGlobals x = some (some (.ref p))) (l : K.lookup p = some ⟨.type "tuple", d, .seq #[.int i t1, .int j t2] n, sl⟩) :
    Co K mg S x (.tup [.int i, .int j]) := by
  refine ⟨_, .ref p, PySem.W.mg_of X G a, rfl, fun G' => .tup (xs := [.int i, .int j]) (.inr ⟨_, _, _, l, rfl, rfl, ?_, ?_⟩) (.cons (.int i) (.cons (.int j) .nil))⟩
  · exact lenOk (n := 2) (by decide)
  · exact .cons ⟨_, rfl⟩ (.cons ⟨_, rfl⟩ .nil)
/-- what the law's def is asked -/
def spLaw (K : PySem.W.Frag) : Sp := fun vs H Q _ => ∃ a ns, vs = [.ref a] ∧ SqL K H a ((ns : List Int).map V.int) ∧ ns.length ≤ 63 ∧ ∀ H', Q (.bl true) H'
/-- the law's def holds -/
abbrev LawOk (P : Program) (w : World) (K : PySem.W.Frag) (mg : Str → Option Value) (base : Heap) (S : Addr) (n : Nat) (f : Addr) (fd : FuncData) : Prop := FnOk P w K mg base (L2.CX P w) n f fd ["_law_script"] (Spf K S (fun _ : List Int => pur) (fun ns => ns.length ≤ 1000) (fun ns => [.rdl (ns.map .int)]) (fun _ d => d = .bl true) (fun _ _ _ => False))
theorem law_end {P : Program} {w : World} {base : Heap} {k : Nat} {f : Addr} {fd : FuncData} (F : LawOk P w K mg base S k f fd) :
    FnOk P w K mg base (L2.CX P w) k f fd ["_law_script"] (spLaw K) := F.imp fun vs H Q E z => by
  obtain ⟨a, ns, rfl, hS, hl, q⟩ := z
  refine ⟨ns, H, Nat.le_trans hl (by decide), .refl _, trivial, .one (.rdl hS ?_), fun v d G' H' _ _ r e => ?_, fun _ _ _ _ _ _ _ _ z => z.elim⟩
  · clear hS hl
    induction ns with
    | nil => exact .nil
    | cons n ns ih => exact .cons (.int n) ih
  · subst e
    rw [r.blI]
    exact q H'
theorem walk_law {l : PySem.W.OpenLaw} {q : Program} {loose : List Str} {XP : (Str → Option Value) → Heap → Prop} {YP : World → Heap → Prop} {d : DefRec} {K : Params → PySem.W.Frag} {x : Str} {k : Nat} (hn : l.most = some 63) (hdf : d.params.defaults = []) (hr : Room k callerA)
    (hY : ∀ (w : World) (h : Heap), YP w h → (K w.params).In h)
    (F : ∀ (w : World) (mg : Str → Option Value) (fa : Addr) (h : Heap), (K w.params).In h → h.Ns mainGlobals mg → mg d.name = some (.ref fa) →
      ∃ fd : FuncData, (∀ (s : Shared) (u : Value), BindsTo s fd ⟨[u], []⟩ [(x, u)]) ∧ ∀ base : Heap, (K w.params).In base → base.Ns mainGlobals mg → FnOk l.prog w (K w.params) mg base (L2.CX l.prog w) k fa fd [x] (spLaw (K w.params))) :
    PySem.W.WalkO q loose XP YP l.row.toRowW d [] (fun f vs => PySem.call f vs) :=
  L2.walk_of (n := 63) (k := k) (x := x) (CX := fun w => L2.CX l.prog w) (sp := fun w => spLaw (K w.params)) hn (by decide) hdf hr hY F (fun _ _ a ns hl _ hS => ⟨a, ns, rfl, hS, hl, fun _ => rfl⟩) fun w H s e s' z => by
    obtain ⟨_, _, _, _, _, _, _, _, _, _, _, _, z⟩ := z
    exact z
end
end Fz
namespace Fz
open PySem PySem.Spec PyProof.Rows L2
/-! ### try, except X as e -/
theorem exm_pair {K : PySem.W.Frag} {c C : Addr} {b : Bool} (h1 : PySem.W.subIn K (.ref C) (.type "BaseException") = some true) (h2 : PySem.W.isClsIn K C = true) (h3 : PySem.W.typeIn K (.ref C) = some (.type "type")) (h4 : PySem.W.subIn K (.ref c) (.ref C) = some b) :
    PySem.W.exmOne K (.ref c) (.ref C) = some b := by
  have e1 : (PySem.W.subIn K (.ref C) (.type "BaseException") == some true) = true := by rw [h1]; rfl
  have e2 : ((PySem.W.clsIn K C).isSome && PySem.W.typeIn K (.ref C) == some (.type "type")) = true := by
    have h2' : (PySem.W.clsIn K C).isSome = true := h2
    rw [h2', h3]; rfl
  show (if (PySem.W.subIn K (.ref C) (.type "BaseException") == some true) = true then (if ((PySem.W.clsIn K C).isSome && PySem.W.typeIn K (.ref C) == some (.type "type")) = true then PySem.W.subIn K (.ref c) (.ref C) else none) else none) = some b
  rw [if_pos e1, if_pos e2]
  exact h4
/-- what a caught error's class must have: its field f can be read -/
structure XfD (K : PySem.W.Frag) (C : Addr) (f : Str) : Prop where
  x : XfC K C
  n : PySem.W.findIn K (.ref C) f = some none
/-- an except suite: its box stands over the caught exception at a, of the class c with the fields fs -/
structure InS (X : Cx) (B' : Bx) (a c : Addr) (fs : List (Str × D)) : Prop where
  ex : ∃ oe pn od, B'.X = X.suite a ((a, oe) :: pn) ∧ Zc (.ref c) od oe ∧ (∃ vs, oe.data = .fields vs) ∧ Xd B'.X.K B'.S B'.G0 od fs
section
variable {B B' : Bx} {ρ : List En} {e : Expr} {k : D → Prop} {x f : Str} {pos p : Pos} {rest : List Stmt} {D0 : Ed}
theorem lookup_rep {K : PySem.W.Frag} {S : Addr} {G : Hp} {f : Str} {d : D} : ∀ {vs : List (Str × V)} {fs : List (Str × D)}, vs.map (·.1) = fs.map (·.1) → RepAll K S G (vs.map (·.2)) (fs.map (·.2)) → fs.lookup f = some d → ∃ v, vs.lookup f = some v ∧ Rep K S G v d
  | [], [], _, _, h => by cases h
  | [], _ :: _, h, _, _ => by cases h
  | _ :: _, [], h, _, _ => by cases h
  | (g, v) :: vs, (g', d') :: fs, h, r, hl => by
    rw [List.map_cons, List.map_cons] at h r
    cases r with
    | cons r1 r2 =>
      injection h with e1 e2
      dsimp only at e1
      subst e1
      rw [List.lookup_cons] at hl ⊢
      split at hl
      · cases hl
        exact ⟨v, rfl, r1⟩
      · exact lookup_rep e2 r2 hl
/-- e.f in the suite, e in slot i -/
theorem tk_xf {X : Cx} {a c : Addr} {fs : List (Str × D)} {d : D} (i : Nat) (hS : InS X B' a c fs) (T : XfD X.K c f) (hr : ρ[i]? = some (.val (.ref a))) (hl : fs.lookup f = some d) (hk : k d) (hN : X.N[i]? = some x := by rfl) (hv : Vis X.env.scope x := by first | exact Or.inl rfl | exact Or.inr (Or.inl rfl) | exact Or.inr (Or.inr rfl))
    (hd : (x == ("__debug__" : Str)) = false := by decide) (hcd : (x == ("__classdict__" : Str)) = false := by decide) (hb : attributeBase (.Name x p) f X.env (eval (.Name x p) X.env) = eval (.Name x p) X.env := by rfl) : Tk B' ρ (.Attribute (.Name x p) f pos) k := by
  obtain ⟨oe, pn, od, eX, hz, hf, hx⟩ := hS.ex
  obtain ⟨X', S', M', G', H'⟩ := B'
  dsimp only at eX hx
  subst eX
  refine Tk.of fun σ H G s => ⟨_, pe_xf T.x T.n hz hf (pe_var (X := X.suite a ((a, oe) :: pn)) hN hv hd hcd) hb, ?_⟩
  obtain ⟨v, ev, rv⟩ := s.va i _ hr
  obtain rfl := rv.refI
  cases od with
  | none =>
    have hx : fs = [] := hx
    subst hx
    cases hl
  | some dd =>
    obtain ⟨vs, hG, h1, h2⟩ := hx
    have hG2 : G dd = some (.xd vs) := s.gr.g _ _ hG
    obtain ⟨v, hv', rv'⟩ := lookup_rep h1 (h2.mono s.gr.g) hl
    exact ⟨_, ev, rfl, rfl, dd, vs, v, rfl, s.gr.s _ _ hG2, hv', .now s rv' hk⟩
/-- no own object -/
def NoOwn (ρ : List En) : Prop := (∀ (j : Nat) (q : Option Addr) (d : D), ρ[j]? ≠ some (En.ow q d)) ∧ ∀ (j : Nat) (r : Rd), ρ[j]? ≠ some (En.rd r)
theorem noOwn_of {ρ : List En} (h : ρ.all (fun e => match e with | .ow _ _ => false | .rd _ => false | _ => true) = true) : NoOwn ρ := by
  refine ⟨fun j q d e => ?_, fun j r e => ?_⟩
  · have := List.all_eq_true.mp h _ (List.mem_of_getElem? e)
    cases this
  · have := List.all_eq_true.mp h _ (List.mem_of_getElem? e)
    cases this
def clrO (σ : L2.St) (i : Option Nat) : L2.St := match i with | none => σ | some i => σ.set i none
def setO (ρ : List En) (i : Option Nat) (e : En) : List En := match i with | none => ρ | some i => ρ.set i e
/-- a box over the same frame that starts later -/
def Later (B B' : Bx) : Prop := ∃ X' G H, B' = ⟨X', B.S, B.M, G, H⟩ ∧ X'.K = B.X.K ∧ Gr B.M.W B.G0 B.H0 G H ∧ B.M.I G H
theorem StOk.later {σ : L2.St} {H G : Hp} (L : Later B B') (s : StOk B' ρ σ H G) : StOk B ρ σ H G := by
  obtain ⟨X', G1, H1, rfl, hK, g1, i1⟩ := L
  refine ⟨g1.trans i1 s.gr, s.inv, s.len, fun j d h => ?_, fun j q d h => ?_, s.ap, s.rd.move hK.symm rfl (fun i r h => ⟨h, rfl⟩) (fun i r h b o _ e => e) (.refl _) (fun i r h b hb => ?_) s.rd.ro⟩
  · obtain ⟨v, e, r⟩ := s.va j d h
    exact ⟨v, e, hK ▸ r⟩
  · obtain ⟨p, o, e, hp, gp, h0, w, t, z⟩ := s.ow j q d h
    refine ⟨p, o, e, hp, gp, ?_, w, hK ▸ t, z⟩
    cases e0 : B.H0 p with
    | none => rfl
    | some u =>
      have : H1 p = some u := g1.h p u w e0
      rw [show H1 p = none from h0] at this
      cases this
  · obtain ⟨n, n0, w⟩ := (s.rd.a0 i r h).2.2.2.2.2 b hb
    refine ⟨n, ?_, w⟩
    cases e0 : B.H0 b with
    | none => rfl
    | some u =>
      have : H1 b = some u := g1.h b u w e0
      rw [show H1 b = none from n0] at this
      cases this
theorem StOk.restart {σ : L2.St} {H G : Hp} {X' : Cx} (hK : X'.K = B.X.K) (n : NoOwn ρ) (s : StOk B ρ σ H G) : StOk ⟨X', B.S, B.M, G, H⟩ ρ σ H G :=
  ⟨.refl s.gr.s, s.inv, s.len, fun j d h => by
    obtain ⟨v, e, r⟩ := s.va j d h
    exact ⟨v, e, hK.symm ▸ r⟩, fun j q d h => absurd h (n.1 j q d), fun i j q r d e p h1 _ _ _ => absurd h1 (n.1 i q d), .non0 n.2⟩
/-- the end of a suite or of a try's body, its name in slot i -/
def Ed.hnd (B : Bx) (i : Option Nat) (rest : List Stmt) (D : Ed) : Ed := { D with nx := fun kp σ H => tWS B.X rest (D.e B kp) (clrO σ i) H }
theorem s_hend {i : Option Nat} (L : Later B B') (h : Tss B (setO ρ i .no) rest D0) : Tss B' ρ [] (Ed.hnd B i rest D0) := s_nil fun kp σ H G s g => by
  have s1 := StOk.later L s
  cases i with
  | none => exact h kp σ H G s1 g
  | some i => exact h kp _ H G (s1.unset i) g
theorem Kd.later {R : D → Prop} {v : V} {H' : Hp} {B B' : Bx} (L : Later B B') (h : Kd B' B'.G0 B'.H0 R v H') : Kd B B.G0 B.H0 R v H' := by
  obtain ⟨X', G1, H1, rfl, hK, g1, i1⟩ := L
  obtain ⟨d, G', g, j, r, q⟩ := h
  exact ⟨d, G', g1.trans i1 g, j, hK ▸ r, q⟩
/-- a suite, read for each caught exception -/
def tZ (X : Cx) (su : List Stmt) (a : Addr) (cls : Value) (d : Option Addr) : TS := fun D σ H => ∀ oe pn, Zc cls d oe → (∃ vs, oe.data = .fields vs) → tWS (X.suite a ((a, oe) :: pn)) su D σ H
inductive ClD (X : Cx) : List ExceptHandler → List (Addr × Option Nat × List Stmt) → Prop
  | nil : ClD X [] []
  | bare {x : Str} {C : Addr} {b0 : Stmt} {su : List Stmt} {np hp : Pos} {hds : List ExceptHandler} {l : List (Addr × Option Nat × List Stmt)} (hc : Names X x (.ref C)) (t : ClD X hds l) :
      ClD X (.ExceptHandler (some (.Name x np)) none (b0 :: su) hp :: hds) ((C, none, b0 :: su) :: l)
  | named {x n : Str} {C : Addr} {i : Nat} {b0 : Stmt} {su : List Stmt} {np hp : Pos} {hds : List ExceptHandler} {l : List (Addr × Option Nat × List Stmt)} (hc : Names X x (.ref C)) (hN : X.N.Nodup) (hi : X.N[i]? = some n) (hn : X.env.kindOf n = some .local) (t : ClD X hds l) :
      ClD X (.ExceptHandler (some (.Name x np)) (some n) (b0 :: su) hp :: hds) ((C, some i, b0 :: su) :: l)
theorem ClD.clauses {X : Cx} : ∀ {hds : List ExceptHandler} {l : List (Addr × Option Nat × List Stmt)}, ClD X hds l → Clauses X hds (l.map fun c => (Value.ref c.1, c.2.1, tZ X c.2.2))
  | _, _, .nil => .nil
  | _, _, .bare hc t => .bare hc (fun a oe cls d pn hz hf => ⟨fun pins s _ _ _ I h => h oe pn hz hf pins s I⟩) t.clauses
  | _, _, .named hc hN hi hn t => .named hc hN hi hn (fun a oe cls d pn hz hf => ⟨fun pins s _ _ _ I h => h oe pn hz hf pins s I⟩) t.clauses
/-- what the clauses do with an error of the class c with the fields fs -/
def HdC (B : Bx) (ρ : List En) (rest : List Stmt) (D0 : Ed) (c : Addr) (fs : List (Str × D)) : List (Addr × Option Nat × List Stmt) → Prop
  | [] => False
  | (C, i, su) :: more => ∃ b, PySem.W.exmOne B.X.K (.ref c) (.ref C) = some b ∧ (b = false → HdC B ρ rest D0 c fs more) ∧
      (b = true → ∀ a oe pn G H, InS B.X ⟨B.X.suite a ((a, oe) :: pn), B.S, B.M, G, H⟩ a c fs → Later B ⟨B.X.suite a ((a, oe) :: pn), B.S, B.M, G, H⟩ → Tss ⟨B.X.suite a ((a, oe) :: pn), B.S, B.M, G, H⟩ (setO ρ i (.val (.ref a))) su (Ed.hnd B i rest D0))
theorem hd_run {kp : Hp} {c : Addr} {fs : List (Str × D)} {od : Option Addr} {σ : L2.St} {H G : Hp} (n : NoOwn ρ) (s : StOk B ρ σ H G) (g : Same kp G) (hx : Xd B.X.K B.S G od fs) : ∀ {l : List (Addr × Option Nat × List Stmt)}, HdC B ρ rest D0 c fs l →
    wHnd B.X.K (fun _ _ _ _ => False) { nx := tWS B.X rest (D0.e B kp), rt := D0.r B } (l.map fun c => (Value.ref c.1, c.2.1, tZ B.X c.2.2)) (.ref c) od σ H
  | [], h => h.elim
  | (C, i, su) :: more, h => by
    obtain ⟨b, hb, no, yes⟩ := h
    refine ⟨b, hb, fun e => hd_run n s g hx (no e), fun e a na => ?_⟩
    have run : ∀ (oe : Obj) (pn : List (Addr × Obj)), Zc (.ref c) od oe → (∃ vs, oe.data = .fields vs) → ∀ σ1, StOk ⟨B.X.suite a ((a, oe) :: pn), B.S, B.M, G, H⟩ (setO ρ i (.val (.ref a))) σ1 H G →
        tWS (B.X.suite a ((a, oe) :: pn)) su { nx := fun σ' H' => tWS B.X rest (D0.e B kp) (clrO σ' i) H', rt := D0.r B } σ1 H := fun oe pn hz hf σ1 s1 => by
      have L : Later B ⟨B.X.suite a ((a, oe) :: pn), B.S, B.M, G, H⟩ := ⟨_, _, _, rfl, rfl, s.gr, s.inv⟩
      exact tWS_mono (yes e a oe pn G H ⟨oe, pn, od, rfl, hz, hf, hx⟩ L kp σ1 H G s1 g) (fun _ _ q => q) (fun v H' q => q.imp (Kd.later L) id) (fun _ _ q => q.elim) (fun _ _ q => q.elim)
    cases i with
    | none => exact fun oe pn hz hf => tWS_mono (run oe pn hz hf σ (s.restart rfl n)) (fun _ _ q => q) (fun _ _ q => q) (fun _ _ q => q.elim) (fun _ _ q => q.elim)
    | some i => exact fun oe pn hz hf => tWS_mono (run oe pn hz hf _ (StOk.put (StOk.restart (X' := B.X.suite a ((a, oe) :: pn)) rfl n s) (.ref a))) (fun _ _ q => q) (fun _ _ q => q) (fun _ _ q => q.elim) (fun _ _ q => q.elim)
/-- try: body, its clauses -/
theorem s_try {body : List Stmt} {h0 : ExceptHandler} {hds : List ExceptHandler} {cl : List (Addr × Option Nat × List Stmt)} {YR : Addr → List (Str × D) → Prop} (hs : B.X.stack = B.X.env :: B.X.outer) (hf : B.X.env.frame = some B.X.env.locals) (tk : Takes B.X (fun _ _ _ _ => False)) (n : NoOwn ρ)
    (C : ClD B.X (h0 :: hds) cl) (hh : ∀ c fs, YR c fs → HdC B ρ rest D0 c fs cl)
    (hb : ∀ pn xe G H, PassesOwn (model B.X.prog B.X.w) B.X.A B.X.env xe → Rz ⟨B.X.tr pn xe, B.S, B.M, G, H⟩ ρ YR → Later B ⟨B.X.tr pn xe, B.S, B.M, G, H⟩ → Tss ⟨B.X.tr pn xe, B.S, B.M, G, H⟩ ρ body (Ed.hnd B none rest D0)) :
    Tss B ρ (.Try body (h0 :: hds) [] [] pos :: rest) D0 := Tss.of fun kp σ H G s g => by
  refine ⟨_, ps_tryAny (tb := fun W D σ H => ∀ pn xe, Takes (B.X.tr pn xe) W → PassesOwn (model B.X.prog B.X.w) B.X.A B.X.env xe → tWS (B.X.tr pn xe) body D σ H) hs hf tk (fun W pn xe tk po => ⟨fun pins s _ _ _ I h => h pn xe tk po pins s I⟩) C.clauses, fun pn xe tk' po => ?_⟩
  have L : Later B ⟨B.X.tr pn xe, B.S, B.M, G, H⟩ := ⟨_, _, _, rfl, rfl, s.gr, s.inv⟩
  refine tWS_mono (hb pn xe G H po ⟨_, tk', fun c fs od σ' H' G' st xd hy => ?_⟩ L kp σ H G (s.restart rfl n) g) (fun _ _ q => q) (fun v H' q => q.imp (Kd.later L) id) (fun _ _ q => q.elim) (fun _ _ q => q.elim)
  exact hd_run n (StOk.later L st) (g.trans st.gr.g) xd (hh c fs hy)
/-- a, b, c = .. with plain local names -/
def k3 (f : D → D → D → Prop) : List D → Prop
  | [d, e, g] => f d e g
  | _ => False
theorem repAll3 {K : PySem.W.Frag} {S : Addr} {G : Hp} {vs : List V} {d e g : D} (r : RepAll K S G vs [d, e, g]) : ∃ v w u, vs = [v, w, u] ∧ Rep K S G v d ∧ Rep K S G w e ∧ Rep K S G u g := by
  cases r with
  | cons r1 r =>
    obtain ⟨w, u, rfl, r2, r3⟩ := repAll2 r
    exact ⟨_, _, _, rfl, r1, r2, r3⟩
theorem ta_three {a b c : Expr} {f : D → D → D → Prop} (h : Tk B ρ a fun d => Tk B ρ b fun e => Tk B ρ c (f d e)) (he : starEach [a, b, c] B.X.env = (false, eval a B.X.env) :: starEach [b, c] B.X.env := by rfl)
    (he2 : starEach [b, c] B.X.env = (false, eval b B.X.env) :: starEach [c] B.X.env := by rfl) (he3 : starEach [c] B.X.env = (false, eval c B.X.env) :: starEach [] B.X.env := by rfl) : Ta B ρ [a, b, c] (k3 f) :=
  ta_cons (h.mono fun _ hd => ta_cons (hd.mono fun _ he => ta_cons (he.mono fun _ hf => ta_nil hf) he3) he2) he
theorem s_par3 (i j l : Nat) {a b c : Expr} {x y z : Str} {px py pz pt : Pos} {kt kk pt2} (h : Ta B ρ [a, b, c] (k3 fun d e g => Tss B (((ρ.set i (.val d)).set j (.val e)).set l (.val g)) rest D0)) (hc : B.X.calm = true) (hN : B.X.N.Nodup) (hij : i ≠ j := by decide) (hil : i ≠ l := by decide) (hjl : j ≠ l := by decide)
    (hi : B.X.N[i]? = some x := by rfl) (hj : B.X.N[j]? = some y := by rfl) (hl : B.X.N[l]? = some z := by rfl)
    (hx : B.X.env.scope.names.lookup x = some .local := by rfl) (hy : B.X.env.scope.names.lookup y = some .local := by rfl) (hz : B.X.env.scope.names.lookup z = some .local := by rfl)
    (hw : swappedStores [.Tuple [.Name x px, .Name y py, .Name z pz] kt pt] (.Tuple [a, b, c] kk pt2) B.X.env = pure (some [x, y, z]) := by rfl)
    (hs : swapsWithSole [.Tuple [.Name x px, .Name y py, .Name z pz] kt pt] (.Tuple [a, b, c] kk pt2) pos.line B.X.env = pure false := by rfl) :
    Tss B ρ (.Assign [.Tuple [.Name x px, .Name y py, .Name z pz] kt pt] (.Tuple [a, b, c] kk pt2) pos :: rest) D0 := Tss.of fun kp σ H G s g =>
  ⟨_, ps_par3 hc hN hi hj hl hij hil hjl hx hy hz pa_W hw hs, h.ta s fun vs ds G' H' g' i' r' h' => by
    rcases ds with _ | ⟨d, _ | ⟨e, _ | ⟨f, _ | ⟨z, r⟩⟩⟩⟩
    · exact h'.elim
    · exact h'.elim
    · exact h'.elim
    · obtain ⟨v, w, u, rfl, r1, r2, r3⟩ := repAll3 r'
      exact ⟨v, w, u, rfl, h' kp _ _ G' ((((s.step g' i').put r1).put r2).put r3) (g.trans g'.g)⟩
    · exact h'.elim⟩
end
end Fz
namespace Fz
open PySem PySem.Spec PyProof.Rows L2
theorem Tt.mono {B : Bx} {ρ : List En} {e : Expr} {k k' : Bool → Prop} (h : Tt B ρ e k) (m : ∀ b, k b → k' b) : Tt B ρ e k' := fun σ H G s pins s0 I => thn (h σ H G s pins s0 I) fun b _ ⟨H', I', G', g, i, kd⟩ => ⟨H', I', G', g, i, m b kd⟩
/-! ### defs with defaults -/
section
variable (P : Program) (w : World) (K : PySem.W.Frag) (mg : Str → Option Value) (base : Heap) (S : Addr)
/-- the name x is a def that keeps a promise where dds fill up -/
structure KnD (x : Str) (n : Nat) (dds : List D) {ι : Type} (M : ι → Md) (C : ι → Prop) (A : ι → List D) (R : ι → D → Prop) (XR : ι → Addr → List (Str × D) → Prop) : Prop where
  ex : ∃ f fd ps ds dvs, mg x = some (.ref f) ∧ PySem.W.keepIn K (.ref f) = true ∧ Binds K fd ps ds ∧ Vals dvs ds ∧ (∀ G, RepAll K S G dvs dds) ∧ FnOk P w K mg base (L2.CX P w) n f fd ps (Spf K S M C A R XR)
/-- .. called with m values and the keywords ks behind them -/
structure KnK (x : Str) (n m : Nat) (ks : List Str) {ι : Type} (M : ι → Md) (C : ι → Prop) (A : ι → List D) (R : ι → D → Prop) (XR : ι → Addr → List (Str × D) → Prop) : Prop where
  ex : ∃ f fd ps, mg x = some (.ref f) ∧ PySem.W.keepIn K (.ref f) = true ∧ KBn K fd ps m ks (fun us ws => us ++ ws) (fun vs zs => vs ++ zs) ∧ FnOk P w K mg base (L2.CX P w) n f fd ps (Spf K S M C A R XR)
/-- where a def with the defaults dvs stands -/
structure AtD (x : Str) (st : Stmt) (ps : List Str) (dvs : List V) : Prop where
  ex : ∃ f fd ds, mg x = some (.ref f) ∧ FunD K x x (defArgs st) (defBody st) (defScope st) dvs [] f fd ∧ Binds K fd ps [] ∧ Vals dvs ds ∧ Binds K fd ps ds ∧ KBn K fd ps (ps.length - dvs.length) (ps.drop (ps.length - dvs.length)) (fun us ws => us ++ ws) (fun vs zs => vs ++ zs)
end
/-- all values with defaults by keyword -/
theorem kb_all {K : PySem.W.Frag} {x qual : Str} {params : Arguments} {body : List Stmt} {scope : Scope} {dvs : List V} {f : Addr} {fd : FuncData} {ps ks : List Str} {n : Nat} (F : FunD K x qual params body scope dvs [] f fd) (hd : dvs ≠ [])
    (h : ∀ (T : Addr) (kV doc pm : Value) (an : Option Addr) (cdv ct : Value) (us its ws : List Value), us.length = n → its.length = dvs.length → ws.length = ks.length →
      ∃ k, bindArgs (PySem.W.fnOf x qual params body scope (.ref T) kV doc pm an cdv ct) ⟨us, ks.zip ws⟩ = seqItems? (.ref T) >>= k ∧ k (some its.toArray) = pure (ps.zip (us ++ ws))) : KBn K fd ps n ks (fun us ws => us ++ ws) (fun vs zs => vs ++ zs) := by
  obtain ⟨oc, od, dV, kV, doc, pm, an, cdv, ct, osl, rfl, lk, hcd, hD, hK⟩ := F.ex
  rcases hD with ⟨e, _⟩ | ⟨_, T, o, its, m, rfl, lT, oT, rT⟩
  · exact absurd e hd
  · refine ⟨fun s us ws X l1 l2 => ?_, fun r1 r2 => r1.append r2⟩
    obtain ⟨k, e1, e2⟩ := h T kV doc pm an cdv ct us its ws l1 rT.length.symm l2
    refine BindsTo.of_looks fun M => ?_
    rw [e1]
    exact looks_items X lT oT (.of_pure e2)
section
variable {P : Program} {w : World} {K : PySem.W.Frag} {mg : Str → Option Value} {base : Heap} {S : Addr}
/-- such a def keeps its promise -/
theorem knD_def {ι : Type} {M : ι → Md} {C : ι → Prop} {A : ι → List D} {R : ι → D → Prop} {XR : ι → Addr → List (Str × D) → Prop} {x : Str} {st : Stmt} {N ps : List Str} {n : Nat} {dvs : List V} {dds : List D} (F : AtD K mg x st ps dvs) (hd : ∀ G, RepAll K S G dvs dds)
    (Sc : FnScope N ps (defScope st)) (len : ∀ i, (A i).length = ps.length) (ρ0 : ι → List En) (h0 : ∀ i, ρ0 i = (A i).map En.val ++ List.replicate (N.length - (A i).length) En.no)
    (body : ∀ (f : Addr) (cdv : Value) (Ar : Around) (outer : List Env) (s : Shared) (H : Hp) (E : XK) (i : ι) (G : Hp), C i → Room n (Ar.deeper (envOfC x (defScope st) s.heap.objs.size f cdv)) →
      PassesOwn (model P w) (cxOf (L2.CX P w) P w K mg base N x (defScope st) f cdv Ar outer s H E).A (cxOf (L2.CX P w) P w K mg base N x (defScope st) f cdv Ar outer s H E).env (cxOf (L2.CX P w) P w K mg base N x (defScope st) f cdv Ar outer s H E).xe →
      (∀ c fs od G' H', Gr (M i).W G H G' H' → (M i).I G' H' → Xd K S G' od fs → XR i c fs → E (.ref c) od H') →
      Tss ⟨cxOf (L2.CX P w) P w K mg base N x (defScope st) f cdv Ar outer s H E, S, M i, G, H⟩ (ρ0 i) (defBody st) (Ed.ret ⟨cxOf (L2.CX P w) P w K mg base N x (defScope st) f cdv Ar outer s H E, S, M i, G, H⟩ (R i))) :
    Kn P w K mg base S x (n + 1) M C A R XR ∧ KnD P w K mg base S x (n + 1) dds M C A R XR ∧ KnK P w K mg base S x (n + 1) (ps.length - dvs.length) (ps.drop (ps.length - dvs.length)) M C A R XR := by
  obtain ⟨f, fd, ds, hm, F1, hb, hv, hbd, hkb⟩ := F.ex
  have ok := def_okG (fun len hb => F1.ok Sc len hb) Sc len ρ0 h0 fun cdv Ar outer s H E i G hc hr po hx => body f cdv Ar outer s H E i G hc hr po hx
  exact ⟨⟨f, fd, ps, hm, F1.kp, hb, ok⟩, ⟨f, fd, ps, ds, dvs, hm, F1.kp, hbd, hv, hd, ok⟩, ⟨f, fd, ps, hm, F1.kp, hkb, ok⟩⟩
end
section
variable {B : Bx} {ρ : List En} {e : Expr} {es : List Expr} {k : D → Prop} {x : Str} {pos p : Pos}
/-- a call where the defaults fill up -/
theorem tk_knD {ι : Type} {M : ι → Md} {C : ι → Prop} {A : ι → List D} {R : ι → D → Prop} {XR : ι → Addr → List (Str × D) → Prop} {n : Nat} {dds : List D}
    (F : KnD B.X.prog B.X.w B.X.K B.X.mg B.X.base B.S x n dds M C A R XR) {rm : Nat} (hr : Room rm B.X.A)
    (h : Ta B ρ (e :: es) fun ds => ∃ i, ds ++ dds = A i ∧ C i ∧ Sub (M i) B.M ∧ (∀ c fs, ¬ XR i c fs) ∧ ∀ d, R i d → k d) (hg : Gl B.X x := by rfl)
    (hdb : (x == ("__debug__" : Str)) = false := by decide) (he : starEach (e :: es) B.X.env = (false, eval e B.X.env) :: starEach es B.X.env := by rfl) (hpl : (backTo pos (starEach es B.X.env)).any (·.1) = false := by rfl) (hrm : n ≤ rm := by decide) :
    Tk B ρ (.Call (.Name x p) (e :: es) [] pos) k := Tk.of fun σ H G s => by
  obtain ⟨f, fd, ps, ds0, dvs, hm, hk, hb, hv, hd, F1⟩ := F.ex
  refine ⟨_, pe_call F1 (hr.mono hrm) hg hm hk hb hv passX0 pa_W hdb he hpl, h.ta s fun vs ds G1 H1 g1 i1 r1 h1 => ?_⟩
  obtain ⟨i, ei, ci, sb, nx, q⟩ := h1
  have s1 := s.step g1 i1
  refine ⟨i, G1, ci, s1.gr.s, sb.inn i1, by rw [← ei]; exact r1.append (hd G1), fun v d G' H' g j r hR => ?_, fun c fs od G' H' g j _ z => nx c fs z⟩
  obtain ⟨g', j'⟩ := sb.up i1 g j
  exact .back i1 g1 ⟨d, G', g', j', r, q d hR⟩
/-- a call with one keyword at the end -/
theorem tk_knK {ι : Type} {M : ι → Md} {C : ι → Prop} {A : ι → List D} {R : ι → D → Prop} {XR : ι → Addr → List (Str × D) → Prop} {n m : Nat} {nm : Str} {ek : Expr} {kp : Pos}
    (F : KnK B.X.prog B.X.w B.X.K B.X.mg B.X.base B.S x n m [nm] M C A R XR) {rm : Nat} (hr : Room rm B.X.A)
    (h : Ta B ρ (e :: es) fun ds => ds.length = m ∧ Tk B ρ ek fun d => ∃ i, ds ++ [d] = A i ∧ C i ∧ Sub (M i) B.M ∧ (∀ c fs, ¬ XR i c fs) ∧ ∀ d, R i d → k d) (hg : Gl B.X x := by rfl)
    (hdb : (x == ("__debug__" : Str)) = false := by decide) (he : starEach (e :: es) B.X.env = (false, eval e B.X.env) :: starEach es B.X.env := by rfl)
    (hall : (backToKw pos (keywordEach [⟨some nm, ek, kp⟩] B.X.env)).all (·.1.isSome) = true := by rfl) (hks : (backToKw pos (keywordEach [⟨some nm, ek, kp⟩] B.X.env)).filterMap (·.1) = [nm] := by rfl)
    (hpl : ((backTo pos (starEach (e :: es) B.X.env)).any (·.1) || (backToKw pos (keywordEach [⟨some nm, ek, kp⟩] B.X.env)).any (·.1.isNone)) = false := by rfl) (hrm : n ≤ rm := by decide) :
    Tk B ρ (.Call (.Name x p) (e :: es) [⟨some nm, ek, kp⟩] pos) k := Tk.of fun σ H G s => by
  obtain ⟨f, fd, ps, hm, hk, hb, F1⟩ := F.ex
  refine ⟨_, pe_callN F1 (hr.mono hrm) hg hm hk hb passX0 pa_W (pk_cons pe_W pk_nil) hall hks hdb he hpl, h.ta s fun vs ds G1 H1 g1 i1 r1 h1 => ?_⟩
  have s1 := s.step g1 i1
  refine h1.2.te s1 fun v d G2 H2 g2 i2 r2 h2 => ?_
  obtain ⟨i, ei, ci, sb, nx, q⟩ := h2
  have s2 := s1.step g2 i2
  refine ⟨by rw [r1.length]; exact h1.1, rfl, i, G2, ci, s2.gr.s, sb.inn i2, by rw [← ei]; exact (r1.mono g2.g).append (.one r2), fun v d G' H' g j r hR => ?_, fun c fs od G' H' g j _ z => nx c fs z⟩
  obtain ⟨g', j'⟩ := sb.up i2 g j
  exact .back i2 (g1.trans i1 g2) ⟨d, G', g', j', r, q d hR⟩
end
end Fz
/-! Chances as fractions: formulas and sizes. -/
namespace Fz
open Rat (divInt)
theorem QSz.one : QSz 1 1 := by constructor <;> decide
theorem QSz.zero : QSz 1 0 := by constructor <;> decide
theorem QSz.ofDiv {a : Nat} {n d : Int} (h : d ≠ 0) (hn : Sz a n) (hd : Sz a d) : QSz a (divInt n d) := ⟨Nat.lt_of_le_of_lt (num_le n d) hn, Nat.lt_of_le_of_lt (den_le n d h) hd⟩
theorem QSz.sub {a b c : Nat} {x y : Rat} (h : QSz a x) (g : QSz b y) (hc : a + b < c := by omega) : QSz c (x - y) := by
  rw [← q_sub]
  refine .ofDiv (Int.ne_of_gt (Int.mul_pos (den_pos x) (den_pos y))) ?_ ((h.den.mul g.den).mono (by omega))
  exact (h.num.mul g.den).sub (g.num.mul h.den) hc (by omega)
theorem QSz.add {a b c : Nat} {x y : Rat} (h : QSz a x) (g : QSz b y) (hc : a + b < c := by omega) : QSz c (x + y) := by
  rw [← q_add]
  refine .ofDiv (Int.ne_of_gt (Int.mul_pos (den_pos x) (den_pos y))) ?_ ((h.den.mul g.den).mono (by omega))
  exact (h.num.mul g.den).add (g.num.mul h.den) hc (by omega)
theorem QSz.mul {a b c : Nat} {x y : Rat} (h : QSz a x) (g : QSz b y) (hc : a + b ≤ c := by omega) : QSz c (x * y) := by
  rw [← q_mul]
  exact .ofDiv (Int.ne_of_gt (Int.mul_pos (den_pos x) (den_pos y))) ((h.num.mul g.num).mono hc) ((h.den.mul g.den).mono hc)
theorem QSz.over {a b c : Nat} {x y : Rat} (h : QSz a x) (g : QSz b y) (h0 : y ≠ 0) (hc : a + b ≤ c := by omega) : QSz c (x / y) := by
  rw [← q_div]
  exact .ofDiv (Int.mul_ne_zero (Int.ne_of_gt (den_pos x)) fun z => h0 (Rat.num_eq_zero.mp z)) ((h.num.mul g.den).mono hc) ((h.den.mul g.num).mono hc)
theorem QSz.nat {a n : Nat} (h : n < 2 ^ a) (h0 : 0 < a) : QSz a (n : Rat) := ⟨h, Nat.lt_of_lt_of_le (by decide : 1 < 2 ^ 1) (Nat.pow_le_pow_right (by decide) h0)⟩
/-- a share over a share -/
structure R9 (r : Rat) : Prop where
  pos : 0 < r
  num : r.num.natAbs ≤ 9
  den : r.den ≤ 9
theorem R9.of {l r : Int} (h1 : 1 ≤ l) (h2 : l ≤ 9) (h3 : 1 ≤ r) (h4 : r ≤ 9) : R9 ((l : Rat) / (r : Rat)) := by
  have hl : (0 : Rat) < (l : Rat) := Rat.intCast_pos.mpr (by omega)
  have hr : (0 : Rat) < (r : Rat) := Rat.intCast_pos.mpr (by omega)
  refine ⟨?_, ?_, ?_⟩
  · rw [Rat.div_def]
    exact Rat.mul_pos hl (Rat.inv_pos.mpr hr)
  · rw [← Rat.divInt_eq_div]
    exact Nat.le_trans (num_le l r) (by omega)
  · rw [← Rat.divInt_eq_div]
    exact Nat.le_trans (den_le l r (by omega)) (by omega)
theorem R9.small {r : Rat} (h : R9 r) : QSz 4 r := ⟨Nat.lt_of_le_of_lt h.num (by decide), Nat.lt_of_le_of_lt h.den (by decide)⟩
theorem nine_pow {x t : Nat} (hx : x ≤ 9) (ht : t ≤ 500) : x ^ t < 2 ^ 1600 :=
  Nat.lt_of_le_of_lt (Nat.pow_le_pow_left hx t) (Nat.lt_of_le_of_lt (Nat.pow_le_pow_right (by decide) ht) (by decide +kernel))
theorem R9.pow {r : Rat} (h : R9 r) {t : Nat} (ht : t ≤ 500) : QSz 1600 (r ^ t) := by
  refine ⟨?_, ?_⟩
  · rw [Rat.num_pow, Int.natAbs_pow]
    exact nine_pow h.num ht
  · rw [Rat.den_pow]
    exact nine_pow h.den ht
theorem one_lt_pow {r : Rat} (h : 1 < r) : ∀ {b : Nat}, 1 ≤ b → 1 < r ^ b
  | 1, _ => by rw [Rat.pow_one]; exact h
  | b + 2, _ => by
    have ih := one_lt_pow h (b := b + 1) (by omega)
    rw [Rat.pow_succ]
    have h0 : (0 : Rat) < r := by grind
    have := Rat.mul_lt_mul_of_pos_right ih h0
    grind
theorem pow_lt_one {r : Rat} (h0 : 0 < r) (h : r < 1) : ∀ {b : Nat}, 1 ≤ b → r ^ b < 1
  | 1, _ => by rw [Rat.pow_one]; exact h
  | b + 2, _ => by
    have ih := pow_lt_one h0 h (b := b + 1) (by omega)
    rw [Rat.pow_succ]
    have := Rat.mul_lt_mul_of_pos_right ih h0
    grind
theorem R9.pow_ne {r : Rat} (h : R9 r) (h1 : r ≠ 1) {b : Nat} (hb : 1 ≤ b) : 1 - r ^ b ≠ 0 := fun z => by
  have h0 := h.pos
  rcases (show r < 1 ∨ 1 < r by grind) with g | g
  · have := pow_lt_one h0 g hb
    grind
  · have := one_lt_pow g hb
    grind
/-- part_of -/
def partQ (r : Rat) (a b : Nat) : Rat := if r = 1 then (a : Rat) / (b : Rat) else (1 - r ^ a) / (1 - r ^ b)
theorem R9.up {r : Rat} (h : R9 r) {t : Nat} (ht : t ≤ 500) : QSz 1602 (1 - r ^ t) := QSz.one.sub (h.pow ht)
theorem partQ_sz {r : Rat} (h : R9 r) {a b : Nat} (ha : a ≤ 500) (hb : b ≤ 500) (h1 : 1 ≤ b) : QSz 3204 (partQ r a b) := by
  unfold partQ
  split
  · refine ((QSz.nat (a := 9) (by omega) (by decide)).over (QSz.nat (a := 9) (n := b) (by omega) (by decide)) ?_ (c := 18)).mono (by decide)
    rw [Ne, Rat.natCast_eq_zero_iff]
    omega
  · rename_i h0
    exact (h.up ha).over (h.up hb) (h.pow_ne h0 h1)
theorem R9.up1 {r : Rat} (h : R9 r) : QSz 6 (1 - r ^ 1) := by rw [Rat.pow_one]; exact QSz.one.sub h.small
theorem partQ1_sz {r : Rat} (h : R9 r) {b : Nat} (hb : b ≤ 500) (h1 : 1 ≤ b) : QSz 1608 (partQ r 1 b) := by
  unfold partQ
  split
  · refine ((QSz.nat (a := 9) (by omega) (by decide)).over (QSz.nat (a := 9) (n := b) (by omega) (by decide)) ?_ (c := 18)).mono (by decide)
    rw [Ne, Rat.natCast_eq_zero_iff]
    omega
  · rename_i h0
    exact h.up1.over (h.up hb) (h.pow_ne h0 h1)
/-- the chances to be the last one -/
def lastQ (r : Rat) (n : Nat) : List Rat := if n = 1 then [1] else 0 :: ((List.range (n - 1)).map fun j => partQ r 1 (n - 1) * r ^ j).reverse
theorem lastQ_len {r : Rat} {n : Nat} (h : 1 ≤ n) : (lastQ r n).length = n := by
  unfold lastQ
  split
  · rename_i e
    rw [e]; rfl
  · rw [List.length_cons, List.length_reverse, List.length_map, List.length_range]
    omega
theorem lastQ_at {r : Rat} {n j : Nat} (h1 : 1 ≤ j) (h2 : j < n) : (lastQ r n)[j]? = some (partQ r 1 (n - 1) * r ^ (n - 1 - j)) := by
  unfold lastQ
  rw [if_neg (by omega)]
  obtain ⟨i, rfl⟩ : ∃ i, j = i + 1 := ⟨j - 1, by omega⟩
  rw [List.getElem?_cons_succ, List.getElem?_reverse (by rw [List.length_map, List.length_range]; omega), List.length_map, List.length_range, List.getElem?_map, List.getElem?_range (by omega)]
  show some (partQ r 1 (n - 1) * r ^ (n - 1 - 1 - i)) = _
  rw [show n - 1 - 1 - i = n - 1 - (i + 1) by omega]
theorem lastQ_zero {r : Rat} {n : Nat} (h : 2 ≤ n) : (lastQ r n)[0]? = some 0 := by
  unfold lastQ
  rw [if_neg (by omega)]
  rfl
theorem lastQ_sz {r : Rat} (h : R9 r) {n : Nat} (h1 : 1 ≤ n) (hn : n ≤ 500) : ∀ q ∈ lastQ r n, QSz 3208 q := fun q hq => by
  unfold lastQ at hq
  split at hq
  · rw [List.mem_singleton] at hq
    rw [hq]
    exact QSz.one.mono (by decide)
  · rw [List.mem_cons, List.mem_reverse, List.mem_map] at hq
    rcases hq with rfl | ⟨j, hj, rfl⟩
    · exact QSz.zero.mono (by decide)
    · rw [List.mem_range] at hj
      exact (partQ1_sz h (by omega) (by omega)).mul (h.pow (by omega))
section
open PySem PySem.Spec PyProof.Rows L2
theorem deq_int (a b : Int) : deq (.int a) (.int b) = decide (a = b) := by
  unfold deq
  rw [py, py, PyData.eqv]
  exact Bool.eq_iff_iff.mpr (by simp)
theorem deq_tup (a b : List D) : deq (.tup a) (.tup b) = PyData.eqvAll (pyL a) (pyL b) := by
  unfold deq
  rw [py, py, PyData.eqv]
theorem deq_lst (a b : List D) : deq (.lst a) (.lst b) = PyData.eqvAll (pyL a) (pyL b) := by
  unfold deq
  rw [py, py, PyData.eqv]
theorem deqA_nil : PyData.eqvAll (pyL []) (pyL []) = true := by rw [pyL, PyData.eqvAll]
theorem deqA_cons (a b : D) (as bs : List D) : PyData.eqvAll (pyL (a :: as)) (pyL (b :: bs)) = (deq a b && PyData.eqvAll (pyL as) (pyL bs)) := by
  rw [pyL, pyL, PyData.eqvAll]
  rfl
theorem deqA_nc (b : D) (bs : List D) : PyData.eqvAll (pyL []) (pyL (b :: bs)) = false := by rw [pyL, pyL, PyData.eqvAll]
theorem deqA_cn (b : D) (bs : List D) : PyData.eqvAll (pyL (b :: bs)) (pyL []) = false := by rw [pyL, pyL, PyData.eqvAll]
theorem deq_fr (a b : Rat) : deq (fr a) (fr b) = decide (a = b) := by
  rw [deq_tup, deqA_cons, deqA_cons, deqA_nil, deq_int, deq_int, Bool.and_true, ← Bool.decide_and, decide_eq_decide]
  refine ⟨fun ⟨h1, h2⟩ => Rat.ext h1 (by omega), fun e => by subst e; exact ⟨rfl, rfl⟩⟩
theorem deqA_fr : ∀ {ps qs : List Rat}, PyData.eqvAll (pyL (ps.map fr)) (pyL (qs.map fr)) = decide (ps = qs)
  | [], [] => by simp [deqA_nil]
  | [], q :: qs => by rw [List.map_nil, List.map_cons, deqA_nc]; rfl
  | p :: ps, [] => by rw [List.map_nil, List.map_cons, deqA_cn]; rfl
  | p :: ps, q :: qs => by
    rw [List.map_cons, List.map_cons, deqA_cons, deq_fr, deqA_fr, ← Bool.decide_and, decide_eq_decide, List.cons.injEq]
theorem deq_frs (ps qs : List Rat) : deq (.lst (ps.map fr)) (.lst (qs.map fr)) = decide (ps = qs) := by rw [deq_lst, deqA_fr]
theorem dOk_frs (n : Nat) (qs : List Rat) : dOk (n + 2) (.lst (qs.map fr)) = true := by
  rw [dOk, List.all_map]
  exact List.all_eq_true.mpr fun q _ => by show dOk (n + 1) (fr q) = true; rw [dOk]; cases n <;> rfl
end
end Fz
namespace Fz
open PySem PySem.Spec PyProof.Rows L2
theorem _root_.L2.FnScope.blk {N ps : List Str} {sc scope : Scope} {own : List (Str × Nat)} (_ : FnScope N ps sc) (h : blkC N sc scope own = true) : BlkOk N sc scope own := blkOk_by h
/-! ### comprehensions, once for all iterables -/
/-- the reading of a comprehension, whatever follows -/
structure LcI (B : Bx) (ρ : List En) (tg iter : Expr) (ifs : List Expr) (elt : Expr) (scope : Scope) (own : List (Str × Nat)) (g : TG) (k : D → Prop) : Prop where
  ex : ∃ wi, PI B.X tg iter wi ∧ ∀ σ H G, StOk B ρ σ H G → ∀ Q : VK, (∀ v H', Kd B G H k v H' → Q v H') → tLc wi g (tIfs B.X scope ifs) (tWB B.X scope elt) (own.map (·.2)) σ H Q
section
variable {B : Bx} {ρ : List En} {a b e elt tg iter : Expr} {ifs : List Expr} {k : D → Prop} {pos p : Pos} {x : Str} {scope : Scope} {own : List (Str × Nat)} {put : List En → D → List En → Prop} {is : List Nat} {g : TG}
/-- .. as a value -/
theorem tk_lcI (own : List (Str × Nat)) (g : TG) (h : LcI B ρ tg iter ifs elt scope own g k) (hc : B.X.calm = true) (hN : B.X.N.Nodup) (ok : BlkOk B.X.N B.X.env.scope scope own)
    (hg : ∀ (s : Shared) (H : Hp) (C : Addr) (cl : List (Str × Addr)) (fp : List Addr), PG (B.X.blk s H scope (compEnvC scope cl C B.X.env) fp) tg g) (hl : ifs.length ≤ 1 := by decide)
    (hs : ∀ x, foldedSetIterable iter B.X.env x = pure x := by intro _; rfl) : Tk B ρ (.ListComp elt [⟨tg, iter, ifs, 0⟩] scope pos) k := Tk.of fun σ H G s => by
  obtain ⟨wi, hp, hr⟩ := h.ex
  exact ⟨_, pe_lc (te := tWB B.X scope elt) (tt := tIfs B.X scope ifs) hc hN hp ok hg (pts_W hl) (fun s' H' C cl fp => ⟨fun pins s0 σ H Q I h => h s' H' C cl fp pins s0 I⟩) hs, hr σ H G s _ fun _ _ q => q⟩
/-- .. stored at once in a local name, on one line -/
theorem s_lcI (i : Nat) {y : Str} {py spos : Pos} {rest : List Stmt} {D0 : Ed} (own : List (Str × Nat)) (g : TG) (h : LcI B ρ tg iter ifs elt scope own g fun d => Tss B (ρ.set i (.val d)) rest D0) (hc : B.X.calm = true) (hN : B.X.N.Nodup) (ok : BlkOk B.X.N B.X.env.scope scope own)
    (hg : ∀ (s : Shared) (H : Hp) (C : Addr) (cl : List (Str × Addr)) (fp : List Addr), PG (B.X.blk s H scope (compEnvC scope cl C B.X.env) fp) tg g)
    (hsw : swapsWith (.ListComp elt [⟨tg, iter, ifs, 0⟩] scope pos) (some (.Name y py)) spos.line B.X.env = pure true)
    (hl : ifs.length ≤ 1 := by decide) (hi : B.X.N[i]? = some y := by rfl) (hyl : B.X.env.scope.names.lookup y = some .local := by rfl)
    (hs : ∀ x, foldedSetIterable iter B.X.env x = pure x := by intro _; rfl) : Tss B ρ (.Assign [.Name y py] (.ListComp elt [⟨tg, iter, ifs, 0⟩] scope pos) spos :: rest) D0 := Tss.of fun kp σ H G s gk => by
  obtain ⟨wi, hp, hr⟩ := h.ex
  refine ⟨_, ps_setLc (i := i) (te := tWB B.X scope elt) (tt := tIfs B.X scope ifs) hc hN hi hyl hsw hp ok hg (pts_W hl) (fun s' H' C cl fp => ⟨fun pins s0 σ H Q I h => h s' H' C cl fp pins s0 I⟩) hs, hr σ H G s _ fun v H' q => ?_⟩
  obtain ⟨d, G', g', i', r', h'⟩ := q
  exact (show Tss B (ρ.set i (.val d)) rest D0 from h') kp _ _ G' ((s.step g' i').put r') (gk.trans g'.g)
/-- in range(n) -/
theorem lci_r1 {pr pc : Pos} (td : TgD B.X.K g put is) (hi : ∀ i ∈ is, i ∈ own.map (·.2))
    (h : Ta B ρ [a] (kRng1 fun lo n => n < sizeLine ∧ ∃ rs, All2 (LcTurn B scope (wipeR ρ (own.map (·.2))) put ifs elt) (rngD lo n) rs ∧ k (.lst (rs.filterMap id)))) (hm : B.X.mg "range" = none)
    (hgr : Gl B.X "range" := by rfl) (hse : starEach [a] B.X.env = [(false, eval a B.X.env)] := by rfl) : LcI B ρ tg (.Call (.Name "range" pr) [a] [] pc) ifs elt scope own g k :=
  ⟨_, pi_range1 hgr hm pa_W hse, fun σ H G s Q qf => h.ta s fun vs ds G1 H1 g1 i1 r1 h1 => by
    unfold kRng1 at h1
    split at h1
    · obtain ⟨h2, h3, hz, rs, ht, hk⟩ := h1
      obtain ⟨v, rfl, rv⟩ := repAll1 r1
      have e := rv.intI
      subst e
      refine ⟨_, rfl, h2, h3, fun D hD => ?_⟩
      obtain ⟨W, w0, hw⟩ := lc_rng i1 s.inv g1 (s.step g1 i1) hz ht hk td hi D hD
      exact ⟨W, w0, fun i m H' w => (hw i m H' w).imp (fun q => ⟨q.1, qf _ _ q.2⟩) id⟩
    · exact h1.elim⟩
/-- in range(a, b) -/
theorem lci_r2 {pr pc : Pos} (td : TgD B.X.K g put is) (hi : ∀ i ∈ is, i ∈ own.map (·.2))
    (h : Ta B ρ [a, b] (kRng2 fun lo n => n < sizeLine ∧ ∃ rs, All2 (LcTurn B scope (wipeR ρ (own.map (·.2))) put ifs elt) (rngD lo n) rs ∧ k (.lst (rs.filterMap id)))) (hm : B.X.mg "range" = none)
    (hgr : Gl B.X "range" := by rfl) (hse : starEach [a, b] B.X.env = [(false, eval a B.X.env), (false, eval b B.X.env)] := by rfl) (hse2 : starEach [b] B.X.env = [(false, eval b B.X.env)] := by rfl) : LcI B ρ tg (.Call (.Name "range" pr) [a, b] [] pc) ifs elt scope own g k :=
  ⟨_, pi_range2 hgr hm pa_W hse hse2, fun σ H G s Q qf => h.ta s fun vs ds G1 H1 g1 i1 r1 h1 => by
    unfold kRng2 at h1
    split at h1
    · obtain ⟨h2, hz, rs, ht, hk⟩ := h1
      obtain ⟨v, w, rfl, rv, rw'⟩ := repAll2 r1
      have e := rv.intI
      have e2 := rw'.intI
      subst e e2
      refine ⟨_, _, rfl, h2, fun D hD => ?_⟩
      obtain ⟨W, w0, hw⟩ := lc_rng i1 s.inv g1 (s.step g1 i1) hz ht hk td hi D hD
      exact ⟨W, w0, fun i m H' w => (hw i m H' w).imp (fun q => ⟨q.1, qf _ _ q.2⟩) id⟩
    · exact h1.elim⟩
/-- in a list -/
theorem lci_l (td : TgD B.X.K g put is) (hi : ∀ i ∈ is, i ∈ own.map (·.2))
    (h : Tk B ρ iter (kSeq fun ds => ds.length < sizeLine ∧ ∃ rs, All2 (LcTurn B scope (wipeR ρ (own.map (·.2))) put ifs elt) ds rs ∧ k (.lst (rs.filterMap id)))) : LcI B ρ tg iter ifs elt scope own g k :=
  ⟨_, pi_list pe_W, fun σ H G s Q qf => h.te s fun v d G1 H1 g1 i1 r1 h1 => by
    obtain ⟨a, xs, ds, rfl, ha, ra, hz, rs, h2, hk⟩ := r1.seqI h1
    have s1 := s.step g1 i1
    refine ⟨a, rfl, ⟨xs, Same.seq s1.gr.s ha⟩, fun p hp => ?_⟩
    obtain ⟨Pv, p0, pS, pt, pd⟩ := lc_inv s1 ra hp hz h2 hk td hi
    exact lc_list (K := B.X.K) (a := a) (xs := xs) (g := g) (tt := tIfs B.X scope ifs) (te := tWB B.X scope elt) (vs := own.map (·.2)) (σ := σ) Pv p0 (fun i H _ q => Same.seq (pS i H q) ha) (fun i x H hx q => pt i x H hx q) fun H q => qf _ _ (Kd.back i1 g1 (pd H q))⟩
/-- in a tuple -/
theorem lci_t (td : TgD B.X.K g put is) (hi : ∀ i ∈ is, i ∈ own.map (·.2))
    (h : Tk B ρ iter (kSeqT fun ds => ds.length < sizeLine ∧ ∃ rs, All2 (LcTurn B scope (wipeR ρ (own.map (·.2))) put ifs elt) ds rs ∧ k (.lst (rs.filterMap id)))) : LcI B ρ tg iter ifs elt scope own g k :=
  ⟨_, pi_tup pe_W, fun σ H G s Q qf => h.te s fun v d G1 H1 g1 i1 r1 h1 => by
    cases d with
    | tup ds =>
      obtain ⟨a, xs, rfl, ha, ra⟩ := r1.tupI
      obtain ⟨hz, rs, h2, hk⟩ := h1
      have s1 := s.step g1 i1
      refine ⟨a, rfl, ⟨xs, same_seqT s1.gr.s ha⟩, fun p hp => ?_⟩
      obtain ⟨Pv, p0, pS, pt, pd⟩ := lc_inv s1 ra hp hz h2 hk td hi
      exact lc_tup (K := B.X.K) (a := a) (xs := xs) (g := g) (tt := tIfs B.X scope ifs) (te := tWB B.X scope elt) (vs := own.map (·.2)) (σ := σ) Pv p0 (fun i H _ q => same_seqT (pS i H q) ha) (fun i x H hx q => pt i x H hx q) fun H q => qf _ _ (Kd.back i1 g1 (pd H q))
    | _ => exact h1.elim⟩
end
/-! ### .. with one name as the target -/
theorem fm_some {α β : Type} (xs : List α) (f : α → β) : (xs.map fun x => some (f x)).filterMap id = xs.map f := by
  induction xs with
  | nil => rfl
  | cons x xs ih =>
    rw [List.map_cons, List.map_cons, ← ih]
    rfl
theorem fm_if {α β : Type} (xs : List α) (p : α → Bool) (f : α → β) : (xs.map fun x => if p x then some (f x) else none).filterMap id = (xs.filter p).map f := by
  induction xs with
  | nil => rfl
  | cons x xs ih =>
    rw [List.map_cons]
    cases h : p x with
    | true =>
      rw [List.filter_cons_of_pos h, List.map_cons, ← ih]
      rfl
    | false =>
      rw [List.filter_cons_of_neg (by rw [h]; exact Bool.false_ne_true), ← ih]
      rfl
theorem All2.to {α β γ : Type} {R : α → β → Prop} {Q : α → γ → Prop} {f : β → γ} (h : ∀ a b, R a b → Q a (f b)) : ∀ {as : List α} {bs : List β}, All2 R as bs → All2 Q as (bs.map f)
  | _, _, .nil => .nil
  | _, _, .cons r t => .cons (h _ _ r) (t.to h)
section
variable {B : Bx} {ρ : List En} {a b e elt tg iter c : Expr} {k : D → Prop} {pos p : Pos} {x : Str} {scope : Scope}
/-- a turn: the item d gives r -/
def NT (B : Bx) (scope : Scope) (ρ : List En) (i : Nat) (elt : Expr) (d r : D) : Prop := TkB B scope ((ρ.set i .no).set i (.val d)) elt fun x => x = r
/-- a turn with a test -/
def NTf (B : Bx) (scope : Scope) (ρ : List En) (i : Nat) (c elt : Expr) (d : D) (t : Bool) (r : D) : Prop := TtB B scope ((ρ.set i .no).set i (.val d)) c fun b => b = t ∧ (t = true → TkB B scope ((ρ.set i .no).set i (.val d)) elt fun x => x = r)
theorem NT.turn {i : Nat} {y : Str} {d r : D} (h : NT B scope ρ i elt d r) : LcTurn B scope (wipeR ρ ([(y, i)].map (·.2))) (putN i) [] elt d (some r) := ⟨_, rfl, fun s H C cl fp => (h s H C cl fp).mono fun _ e => by rw [e]⟩
theorem NTf.turn {i : Nat} {y : Str} {d r : D} {t : Bool} (h : NTf B scope ρ i c elt d t r) : LcTurn B scope (wipeR ρ ([(y, i)].map (·.2))) (putN i) [c] elt d (if t then some r else none) := ⟨_, rfl, fun s H C cl fp => (h s H C cl fp).mono fun b hb => by
  obtain ⟨rfl, hb⟩ := hb
  cases b with
  | true => exact fun s H C cl fp => ((hb rfl) s H C cl fp).mono fun _ e => by rw [e]; rfl
  | false => rfl⟩
theorem hi_one {y : Str} {i : Nat} : ∀ j ∈ [i], j ∈ [(y, i)].map (·.2) := fun _ h => h
theorem lcn_r1 (y : Str) (i : Nat) {pr pc : Pos} (h : Ta B ρ [a] (kRng1 fun lo n => n < sizeLine ∧ ∃ f : Nat → D, (∀ j : Nat, j < n → NT B scope ρ i elt (.int (lo + (j : Int))) (f j)) ∧ k (.lst ((List.range n).map f)))) (hm : B.X.mg "range" = none)
    (hgr : Gl B.X "range" := by rfl) (hse : starEach [a] B.X.env = [(false, eval a B.X.env)] := by rfl) : LcI B ρ tg (.Call (.Name "range" pr) [a] [] pc) [] elt scope [(y, i)] (gName i) k :=
  lci_r1 (td_name i) hi_one (fun σ H G s pos pins s0 I => thn (h σ H G s pos pins s0 I) fun _ _ ⟨vs, H', I', r, ds, G', g, i', rp, q⟩ => ⟨vs, H', I', r, ds, G', g, i', rp, by
    unfold kRng1 at q ⊢
    split at q
    · obtain ⟨q1, q2, q3, f, q4, q5⟩ := q
      exact ⟨q1, q2, q3, (List.range _).map fun j => some (f j), All2.map fun j hj => (q4 j (List.mem_range.mp hj)).turn, by rw [fm_some]; exact q5⟩
    · exact q⟩) hm hgr hse
theorem lcn_r2 (y : Str) (i : Nat) {pr pc : Pos} (h : Ta B ρ [a, b] (kRng2 fun lo n => n < sizeLine ∧ ∃ f : Nat → D, (∀ j : Nat, j < n → NT B scope ρ i elt (.int (lo + (j : Int))) (f j)) ∧ k (.lst ((List.range n).map f)))) (hm : B.X.mg "range" = none)
    (hgr : Gl B.X "range" := by rfl) (hse : starEach [a, b] B.X.env = [(false, eval a B.X.env), (false, eval b B.X.env)] := by rfl) (hse2 : starEach [b] B.X.env = [(false, eval b B.X.env)] := by rfl) : LcI B ρ tg (.Call (.Name "range" pr) [a, b] [] pc) [] elt scope [(y, i)] (gName i) k :=
  lci_r2 (td_name i) hi_one (fun σ H G s pos pins s0 I => thn (h σ H G s pos pins s0 I) fun _ _ ⟨vs, H', I', r, ds, G', g, i', rp, q⟩ => ⟨vs, H', I', r, ds, G', g, i', rp, by
    unfold kRng2 at q ⊢
    split at q
    · obtain ⟨q1, q3, f, q4, q5⟩ := q
      exact ⟨q1, q3, (List.range _).map fun j => some (f j), All2.map fun j hj => (q4 j (List.mem_range.mp hj)).turn, by rw [fm_some]; exact q5⟩
    · exact q⟩) hm hgr hse hse2
theorem lcf_r2 (y : Str) (i : Nat) {pr pc : Pos} (h : Ta B ρ [a, b] (kRng2 fun lo n => n < sizeLine ∧ ∃ (t : Nat → Bool) (f : Nat → D), (∀ j : Nat, j < n → NTf B scope ρ i c elt (.int (lo + (j : Int))) (t j) (f j)) ∧ k (.lst (((List.range n).filter t).map f)))) (hm : B.X.mg "range" = none)
    (hgr : Gl B.X "range" := by rfl) (hse : starEach [a, b] B.X.env = [(false, eval a B.X.env), (false, eval b B.X.env)] := by rfl) (hse2 : starEach [b] B.X.env = [(false, eval b B.X.env)] := by rfl) : LcI B ρ tg (.Call (.Name "range" pr) [a, b] [] pc) [c] elt scope [(y, i)] (gName i) k :=
  lci_r2 (td_name i) hi_one (fun σ H G s pos pins s0 I => thn (h σ H G s pos pins s0 I) fun _ _ ⟨vs, H', I', r, ds, G', g, i', rp, q⟩ => ⟨vs, H', I', r, ds, G', g, i', rp, by
    unfold kRng2 at q ⊢
    split at q
    · obtain ⟨q1, q3, t, f, q4, q5⟩ := q
      exact ⟨q1, q3, (List.range _).map fun j => if t j then some (f j) else none, All2.map fun j hj => (q4 j (List.mem_range.mp hj)).turn, by rw [fm_if]; exact q5⟩
    · exact q⟩) hm hgr hse hse2
theorem lcf_r1 (y : Str) (i : Nat) {pr pc : Pos} (h : Ta B ρ [a] (kRng1 fun lo n => n < sizeLine ∧ ∃ (t : Nat → Bool) (f : Nat → D), (∀ j : Nat, j < n → NTf B scope ρ i c elt (.int (lo + (j : Int))) (t j) (f j)) ∧ k (.lst (((List.range n).filter t).map f)))) (hm : B.X.mg "range" = none)
    (hgr : Gl B.X "range" := by rfl) (hse : starEach [a] B.X.env = [(false, eval a B.X.env)] := by rfl) : LcI B ρ tg (.Call (.Name "range" pr) [a] [] pc) [c] elt scope [(y, i)] (gName i) k :=
  lci_r1 (td_name i) hi_one (fun σ H G s pos pins s0 I => thn (h σ H G s pos pins s0 I) fun _ _ ⟨vs, H', I', r, ds, G', g, i', rp, q⟩ => ⟨vs, H', I', r, ds, G', g, i', rp, by
    unfold kRng1 at q ⊢
    split at q
    · obtain ⟨q1, q2, q3, t, f, q4, q5⟩ := q
      exact ⟨q1, q2, q3, (List.range _).map fun j => if t j then some (f j) else none, All2.map fun j hj => (q4 j (List.mem_range.mp hj)).turn, by rw [fm_if]; exact q5⟩
    · exact q⟩) hm hgr hse
/-- over a list of data f x, x in xs, each giving r x -/
theorem lcn_l (y : Str) (i : Nat) (h : Tk B ρ iter (kSeq fun ds => ds.length < sizeLine ∧ ∃ rs : List D, All2 (NT B scope ρ i elt) ds rs ∧ k (.lst rs))) : LcI B ρ tg iter [] elt scope [(y, i)] (gName i) k :=
  lci_l (td_name i) hi_one (h.mono fun d hd => by
    have key : ∀ {ds : List D}, (ds.length < sizeLine ∧ ∃ rs : List D, All2 (NT B scope ρ i elt) ds rs ∧ k (.lst rs)) → (ds.length < sizeLine ∧ ∃ rs, All2 (LcTurn B scope (wipeR ρ ([(y, i)].map (·.2))) (putN i) [] elt) ds rs ∧ k (.lst (rs.filterMap id))) := fun {ds} ⟨q1, rs, q2, q3⟩ => by
      exact ⟨q1, rs.map some, q2.to fun _ _ h => h.turn, by rw [show rs.map some = rs.map (fun x => some (id x)) from rfl, fm_some, List.map_id]; exact q3⟩
    cases d with
    | lst ds => exact key hd
    | rdl ds => exact key hd
    | _ => exact hd.elim)
theorem lcf_l (y : Str) (i : Nat) (h : Tk B ρ iter (kSeq fun ds => ds.length < sizeLine ∧ ∃ rs : List (Bool × D), All2 (fun d r => NTf B scope ρ i c elt d r.1 r.2) ds rs ∧ k (.lst ((rs.filter (·.1)).map (·.2))))) : LcI B ρ tg iter [c] elt scope [(y, i)] (gName i) k :=
  lci_l (td_name i) hi_one (h.mono fun d hd => by
    have key : ∀ {ds : List D}, (ds.length < sizeLine ∧ ∃ rs : List (Bool × D), All2 (fun d r => NTf B scope ρ i c elt d r.1 r.2) ds rs ∧ k (.lst ((rs.filter (·.1)).map (·.2)))) → (ds.length < sizeLine ∧ ∃ rs, All2 (LcTurn B scope (wipeR ρ ([(y, i)].map (·.2))) (putN i) [c] elt) ds rs ∧ k (.lst (rs.filterMap id))) := fun {ds} ⟨q1, rs, q2, q3⟩ => by
      exact ⟨q1, rs.map fun r => if r.1 then some r.2 else none, q2.to fun _ _ h => h.turn, by rw [fm_if]; exact q3⟩
    cases d with
    | lst ds => exact key hd
    | rdl ds => exact key hd
    | _ => exact hd.elim)
end
/-! ### max, min, all, dict -/
section
variable {B : Bx} {ρ : List En} {a b c e : Expr} {k : D → Prop} {pos p p' p'' : Pos} {x : Str}
/-- all(xs) of bools -/
def kBls (f : List Bool → Prop) : D → Prop := fun d => ∃ bs : List Bool, (d = .lst (bs.map D.bl) ∨ d = .rdl (bs.map D.bl)) ∧ f bs
theorem RepAll.mapBl {K : PySem.W.Frag} {S : Addr} {G : Hp} : ∀ {vs : List V} {bs : List Bool}, RepAll K S G vs (bs.map D.bl) → vs = bs.map V.bl
  | _, [], .nil => rfl
  | _, n :: ns, .cons h a => by rw [h.blI, RepAll.mapBl a]; rfl
theorem tk_all (hc : B.X.calm = true) (hm : B.X.mg "all" = none) (h : Tk B ρ a (kBls fun bs => k (.bl (bs.all id)))) (hg : Gl B.X "all" := by rfl)
    (he : starEach (a :: []) B.X.env = (false, eval a B.X.env) :: starEach [] B.X.env := by rfl) (hpl : (backTo pos (starEach [] B.X.env)).any (·.1) = false := by rfl) : Tk B ρ (.Call (.Name "all" p) [a] [] pos) k :=
  tk_blt (cr_all hc) hm (by decide +kernel) (ta_one h he)
    (fun vs ds G H sg i r h => by
      obtain ⟨v, d, rfl, rv, hd⟩ := ko1 r h
      obtain ⟨bs, e | e, hf⟩ := hd
      · subst e
        obtain ⟨a, xs, rfl, ha, ra⟩ := rv.lstI
        exact ⟨a, bs, rfl, by rw [← ra.mapBl]; exact SqL.of (sg _ _ ha), .val sg i (.bl _) hf⟩
      · subst e
        obtain ⟨a, xs, rfl, ha, ra⟩ := rv.rdlI
        exact ⟨a, bs, rfl, by rw [← ra.mapBl]; exact Same.seq sg ha, .val sg i (.bl _) hf⟩) hg (by decide) (by decide) he hpl
end
end Fz
namespace Fz
/-! k07: what is behind one throw -/
theorem small_powk {x t k : Nat} (hx : x ≤ 9) (ht : t ≤ k) : x ^ t < 2 ^ (4 * k + 1) := by
  have h1 : x ^ t ≤ 16 ^ t := Nat.pow_le_pow_left (by omega) t
  have h2 : (16 : Nat) ^ t ≤ 16 ^ k := Nat.pow_le_pow_right (by decide) ht
  have h3 : (16 : Nat) ^ k = 2 ^ (4 * k) := by rw [Nat.pow_mul]
  have h4 : 2 ^ (4 * k) < 2 ^ (4 * k + 1) := Nat.pow_lt_pow_right (by decide) (by omega)
  omega
theorem R9.powS {r : Rat} (h : R9 r) {t k : Nat} (ht : t ≤ k) : QSz (4 * k + 1) (r ^ t) := by
  constructor
  · rw [Rat.num_pow, Int.natAbs_pow]
    exact small_powk h.num ht
  · rw [Rat.den_pow]
    exact small_powk h.den ht
theorem partQ_szk {r : Rat} (h : R9 r) {a b k : Nat} (ha : a ≤ k) (hb : b ≤ k) (h1 : 1 ≤ b) : QSz (8 * k + 20) (partQ r a b) := by
  have up : ∀ {t}, t ≤ k → QSz (4 * k + 4) (1 - r ^ t) := fun ht => QSz.one.sub (h.powS ht)
  have small : ∀ {t}, t ≤ k → QSz (4 * k + 1) (t : Rat) := fun {t} ht => QSz.nat (by
    have : t < 2 ^ t := Nat.lt_two_pow_self
    exact Nat.lt_of_lt_of_le this (Nat.pow_le_pow_right (by decide) (by omega))) (by omega)
  unfold partQ
  split
  · exact (small ha).over (small hb) (by rw [Ne, Rat.natCast_eq_zero_iff]; omega)
  · next h2 => exact (up ha).over (up hb) (h.pow_ne h2 h1)
end Fz
namespace Fz
open PySem PySem.Spec PyProof.Rows L2
/-! ### dicts that the def owns -/
theorem putK_at {k : Key} {v : V} : ∀ {kvs : List (Key × V)} {i : Nat}, (kvs.map (·.1)).Nodup → (kvs.map (·.1))[i]? = some k → (putK kvs k v).map (·.1) = kvs.map (·.1) ∧ (putK kvs k v).map (·.2) = (kvs.map (·.2)).set i v := by
  have key : ∀ {kvs : List (Key × V)} {i : Nat}, (kvs.map (·.1)).Nodup → (kvs.map (·.1))[i]? = some k → (kvs.map (fun kv => if kv.1 = k then (kv.1, v) else kv)).map (·.2) = (kvs.map (·.2)).set i v ∧ (kvs.any fun kv => decide (kv.1 = k)) = true := by
    intro kvs
    induction kvs with
    | nil => intro i _ h; simp at h
    | cons p r ih =>
      intro i nd h
      rw [List.map_cons, List.nodup_cons] at nd
      cases i with
      | zero =>
        have e : p.1 = k := Option.some.inj h
        refine ⟨?_, by rw [List.any_cons, decide_eq_true e]; rfl⟩
        rw [List.map_cons, List.map_cons, if_pos e, List.map_cons, List.set_cons_zero]
        congr 1
        have hr : ∀ kv ∈ r, ¬ kv.1 = k := fun kv hm z => nd.1 (by rw [e, ← z]; exact List.mem_map_of_mem (f := (·.1)) hm)
        rw [List.map_map]
        refine List.map_congr_left fun kv hm => ?_
        show (if kv.1 = k then (kv.1, v) else kv).2 = kv.2
        rw [if_neg (hr kv hm)]
      | succ i =>
        have hm : k ∈ r.map (·.1) := List.mem_of_getElem? (i := i) h
        have e : ¬ p.1 = k := fun z => nd.1 (by rw [z]; exact hm)
        obtain ⟨h1, h2⟩ := ih nd.2 (i := i) h
        refine ⟨?_, by rw [List.any_cons, h2, Bool.or_true]⟩
        rw [List.map_cons, List.map_cons, if_neg e, List.map_cons, List.set_cons_succ, h1]
  intro kvs i nd h
  obtain ⟨h1, h2⟩ := key nd h
  unfold putK
  rw [if_pos h2]
  refine ⟨?_, h1⟩
  rw [List.map_map]
  refine List.map_congr_left fun kv _ => ?_
  show (if kv.1 = k then (kv.1, v) else kv).1 = kv.1
  split <;> rfl
section
variable {B : Bx} {ρ : List En} {a b c e o : Expr} {es : List Expr} {k : D → Prop} {x y z key : Str} {pos p p' p'' : Pos} {st : Stmt} {rest body orelse : List Stmt} {D0 : Ed}
def kDc (f : List Key → List D → Prop) : D → Prop
  | .dct ks ds => f ks ds
  | _ => False
theorem boot_dictT : bootBuiltins "dict" = some (.type "dict") := by decide +kernel
/-- name = dict(e): a new one, the def's own -/
theorem s_ownD (i : Nat) {cp : Pos} (hm : B.X.mg "dict" = none) (h : Tk B ρ a (kDc fun ks ds => Tss B (ρ.set i (.own (.dct ks ds))) rest D0)) (hN : B.X.N.Nodup) (hi : B.X.N[i]? = some x := by rfl) (hx : Loc B.X.env.scope x := by first | exact .inl rfl | exact .inr rfl)
    (hs : swapsWith (.Call (.Name "dict" p) [a] [] cp) (some (.Name x p')) pos.line B.X.env = pure false := by rfl) (hf : B.X.fn x = true ∨ B.X.env.scope.names.lookup x = some .local := by first | exact .inl rfl | exact .inr rfl)
    (hg : Gl B.X "dict" := by rfl) (he : starEach (a :: []) B.X.env = (false, eval a B.X.env) :: starEach [] B.X.env := by rfl) (hpl : (backTo cp (starEach [] B.X.env)).any (·.1) = false := by rfl) :
    Tss B ρ (.Assign [.Name x p'] (.Call (.Name "dict" p) [a] [] cp) pos :: rest) D0 := Tss.of fun kp σ H G s g =>
  ⟨_, ps_set hN hi hx (pe_callTy call_dictD hg hm boot_dictT (pa_cons pe_W pa_nil he) (by decide) (by decide) he hpl) hs hf, h.te s fun v d G' H' g' i' r' h' => by
    cases d with
    | dct ks ds =>
      obtain ⟨q, kvs, rfl, hq, e1, ra⟩ := r'.dctI
      have s1 := s.step g' i'
      exact ⟨q, kvs, rfl, Rd.of (s1.gr.s _ _ hq), fun l n => (show Tss B (ρ.set i (.own (.dct ks ds))) rest D0 from h') kp _ _ G' (s1.putOwn n (.dct e1 rfl ra)) (g.trans g'.g)⟩
    | _ => exact h'.elim⟩
/-- name["k"] = e, the i-th key of an own dict -/
theorem s_dset (j i : Nat) {q0 : Option Addr} {ks : List Key} {ds : List D} {np tp kp' : Pos} {kk} (nd : ks.Nodup) (hr : ρ[j]? = some (.ow q0 (.dct ks ds))) (h : Tk B ρ e fun d => Tss B (ρ.set j (.ow q0 (.dct ks (ds.set i d)))) rest D0)
    (hu : B.X.A.units + 1 < cLine) (hl : ks.length < 1000 := by decide) (hk : ks[i]? = some (.inr key) := by rfl) (hN : B.X.N[j]? = some x := by rfl) (hv : Vis B.X.env.scope x := by first | exact Or.inl rfl | exact Or.inr (Or.inl rfl) | exact Or.inr (Or.inr rfl))
    (hd : (x == ("__debug__" : Str)) = false := by decide) (hcd : (x == ("__classdict__" : Str)) = false := by decide)
    (ha : ∀ v, assign (.Subscript (.Name x np) (.Constant (.str key) kk kp') tp) B.X.env v = (do
      let ov ← holding [v] (eval (.Name x np) B.X.env)
      let iv ← holding [v, ov] (eval (.Constant (.str key) kk kp') B.X.env)
      standAt tp
      holding [v, ov, iv] (setItem ov iv v)
      release [v, ov, iv] []) := by intro _; rfl)
    (hs : swapsWithSole [.Subscript (.Name x np) (.Constant (.str key) kk kp') tp] e pos.line B.X.env = pure false := by rfl) (hw : swappedStores [.Subscript (.Name x np) (.Constant (.str key) kk kp') tp] e B.X.env = pure none := by rfl)
    (h1 : (assignEach [.Subscript (.Name x np) (.Constant (.str key) kk kp') tp] B.X.env).map (·.2) = [assign (.Subscript (.Name x np) (.Constant (.str key) kk kp') tp) B.X.env] := by rfl) :
    Tss B ρ (.Assign [.Subscript (.Name x np) (.Constant (.str key) kk kp') tp] e pos :: rest) D0 := Tss.of fun kp σ H G s g => by
  obtain ⟨q, ob, e1, e2, gp, h0, hw', t, _⟩ := s.ow j _ _ hr
  cases t with
  | @dct kvs _ xs _ hk1 hk2 ra =>
    refine ⟨_, ps_asg pe_W (pg_sub (pe_var hN hv hd hcd) pe_str (set_dict hu) ha) hs hw h1, h.te s fun v d G' H' g' i' r' h' => ⟨.ref q, e1, q, _, rfl, DPut.k (k := .inr key) (g'.h _ _ hw' e2) ?_, ?_⟩⟩
    · have hl2 : kvs.length = ks.length := by rw [← hk1, List.length_map]
      exact Nat.lt_of_lt_of_le (show kvs.length < 1000 by omega) (by rw [sizeLine_eq]; decide)
    · obtain ⟨z1, z2⟩ := putK_at (k := .inr key) (v := v) (kvs := kvs) (i := i) (by rw [hk1]; exact nd) (by rw [hk1]; exact hk)
      exact h' kp _ _ G' ((s.step g' i').change hr e1 (.dct (xs := xs.set i v) (z1.trans hk1) (by rw [z2, hk2]) ((ra.mono g'.g).set r' i))) (g.trans g'.g)
end
/-! ### methods -/
section
variable (P : Program) (w : World) (K : PySem.W.Frag) (mg : Str → Option Value) (base : Heap) (S : Addr)
/-- m is a method of C that keeps a promise (self is the first of A) -/
structure KnM (m : Str) (n : Nat) (C : Addr) {ι : Type} (M : ι → Md) (Cc : ι → Prop) (A : ι → List D) (R : ι → D → Prop) (XR : ι → Addr → List (Str × D) → Prop) : Prop where
  ex : ∃ f fd ps, Meth K C m f ∧ Binds K fd ps [] ∧ FnOk P w K mg base (L2.CX P w) n f fd ps (Spf K S M Cc A R XR)
/-- where it stands -/
structure AtM (C : Addr) (m qual : Str) (st : Stmt) (ps : List Str) : Prop where
  ex : ∃ f fd, Meth K C m f ∧ Fun K m qual st f fd ∧ Binds K fd ps []
/-- f is a property of C whose getter keeps a promise -/
structure KnG (f : Str) (n : Nat) (C : Addr) {ι : Type} (M : ι → Md) (Cc : ι → Prop) (A : ι → List D) (R : ι → D → Prop) : Prop where
  ex : ∃ p g fd ps, PropOf K C f p g ∧ Binds K fd ps [] ∧ FnOk P w K mg base (L2.CX P w) n g fd ps (Spf K S M Cc A R (fun _ _ _ => False))
structure AtG (C : Addr) (f qual : Str) (st : Stmt) (ps : List Str) : Prop where
  ex : ∃ p g fd, PropOf K C f p g ∧ Fun K f qual st g fd ∧ Binds K fd ps []
end
section
variable {P : Program} {w : World} {K : PySem.W.Frag} {mg : Str → Option Value} {base : Heap} {S : Addr}
theorem km_def {ι : Type} {M : ι → Md} {Cc : ι → Prop} {A : ι → List D} {R : ι → D → Prop} {XR : ι → Addr → List (Str × D) → Prop} {C : Addr} {m qual : Str} {st : Stmt} {N ps : List Str} {n : Nat} (F : AtM K C m qual st ps)
    (Sc : FnScope N ps (defScope st)) (len : ∀ i, (A i).length = ps.length) (ρ0 : ι → List En) (h0 : ∀ i, ρ0 i = (A i).map En.val ++ List.replicate (N.length - (A i).length) En.no)
    (body : ∀ (f : Addr) (cdv : Value) (Ar : Around) (outer : List Env) (s : Shared) (H : Hp) (E : XK) (i : ι) (G : Hp), Cc i → Room n (Ar.deeper (envOfC qual (defScope st) s.heap.objs.size f cdv)) →
      PassesOwn (model P w) (cxOf (L2.CX P w) P w K mg base N qual (defScope st) f cdv Ar outer s H E).A (cxOf (L2.CX P w) P w K mg base N qual (defScope st) f cdv Ar outer s H E).env (cxOf (L2.CX P w) P w K mg base N qual (defScope st) f cdv Ar outer s H E).xe →
      (∀ c fs od G' H', Gr (M i).W G H G' H' → (M i).I G' H' → Xd K S G' od fs → XR i c fs → E (.ref c) od H') →
      Tss ⟨cxOf (L2.CX P w) P w K mg base N qual (defScope st) f cdv Ar outer s H E, S, M i, G, H⟩ (ρ0 i) (defBody st) (Ed.ret ⟨cxOf (L2.CX P w) P w K mg base N qual (defScope st) f cdv Ar outer s H E, S, M i, G, H⟩ (R i))) :
    KnM P w K mg base S m (n + 1) C M Cc A R XR := by
  obtain ⟨f, fd, hm, F1, hb⟩ := F.ex
  exact ⟨f, fd, ps, hm, hb, def_ok F1 Sc len ρ0 h0 fun cdv Ar outer s H E i G hc hr po hx => body f cdv Ar outer s H E i G hc hr po hx⟩
theorem kg_def {ι : Type} {M : ι → Md} {Cc : ι → Prop} {A : ι → List D} {R : ι → D → Prop} {C : Addr} {x qual : Str} {st : Stmt} {N ps : List Str} {n : Nat} (F : AtG K C x qual st ps)
    (Sc : FnScope N ps (defScope st)) (len : ∀ i, (A i).length = ps.length) (ρ0 : ι → List En) (h0 : ∀ i, ρ0 i = (A i).map En.val ++ List.replicate (N.length - (A i).length) En.no)
    (body : ∀ (f : Addr) (cdv : Value) (Ar : Around) (outer : List Env) (s : Shared) (H : Hp) (E : XK) (i : ι) (G : Hp), Cc i → Room n (Ar.deeper (envOfC qual (defScope st) s.heap.objs.size f cdv)) →
      PassesOwn (model P w) (cxOf (L2.CX P w) P w K mg base N qual (defScope st) f cdv Ar outer s H E).A (cxOf (L2.CX P w) P w K mg base N qual (defScope st) f cdv Ar outer s H E).env (cxOf (L2.CX P w) P w K mg base N qual (defScope st) f cdv Ar outer s H E).xe →
      Tss ⟨cxOf (L2.CX P w) P w K mg base N qual (defScope st) f cdv Ar outer s H E, S, M i, G, H⟩ (ρ0 i) (defBody st) (Ed.ret ⟨cxOf (L2.CX P w) P w K mg base N qual (defScope st) f cdv Ar outer s H E, S, M i, G, H⟩ (R i))) :
    KnG P w K mg base S x (n + 1) C M Cc A R := by
  obtain ⟨p, g, fd, hm, F1, hb⟩ := F.ex
  exact ⟨p, g, fd, ps, hm, hb, def_ok F1 Sc len ρ0 h0 fun cdv Ar outer s H E i G hc hr po hx => body g cdv Ar outer s H E i G hc hr po⟩
theorem lookup_none {f : Str} : ∀ {kvs : List (Str × V)}, f ∉ kvs.map (·.1) → kvs.lookup f = none
  | [], _ => rfl
  | (g, w) :: kvs, h => by
    rw [List.map_cons, List.mem_cons, not_or] at h
    rw [List.lookup_cons, show (f == g) = false by simpa using h.1]
    exact lookup_none h.2
end
section
variable {B : Bx} {ρ : List En} {a b c e o : Expr} {es : List Expr} {k : D → Prop} {x y z m : Str} {pos p p' apos : Pos}
/-- o.m(), the instance known to stand -/
theorem tk_meth0 {C : Addr} {ι : Type} {M : ι → Md} {Cc : ι → Prop} {A : ι → List D} {R : ι → D → Prop} {XR : ι → Addr → List (Str × D) → Prop} {n : Nat} {pl : Sem Bool} (F : KnM B.X.prog B.X.w B.X.K B.X.mg B.X.base B.S m n C M Cc A R XR) (c : Cls B.X.K C) {rm : Nat} (hr : Room rm B.X.A)
    (h : Tk B ρ o fun d => (∃ fs ds, d = .ins C fs ds ∧ m ∉ fs) ∧ ∃ i, [d] = A i ∧ Cc i ∧ Sub (M i) B.M ∧ (∀ c fs, ¬ XR i c fs) ∧ ∀ d', R i d' → k d') (hrm : n ≤ rm := by decide)
    (ht : eval (.Call (.Attribute o m apos) [] [] pos) B.X.env = (do
      let ov ← eval o B.X.env
      standAt apos.atName
      let (f, first) ← holding [ov] (getMethod ov m pl)
      callWith pos f first (backTo pos (starEach [] B.X.env)) (backToKw pos (keywordEach [] B.X.env))) := by rfl) : Tk B ρ (.Call (.Attribute o m apos) [] [] pos) k := Tk.of fun σ H G s => by
  obtain ⟨f, fd, ps, hm, hb, F1⟩ := F.ex
  refine ⟨_, pe_meth0 pe_W c hm F1 (hr.mono hrm) hb .nil passX0 ht, h.te s fun v d G1 H1 g1 i1 r1 h1 => ?_⟩
  obtain ⟨⟨fs, ds, rfl, nm⟩, i, ei, ci, sb, nx, q⟩ := h1
  obtain ⟨a, dx, kvs, rfl, ha, ek, ra⟩ := id r1.insI
  have s1 := s.step g1 i1
  refine ⟨a, dx, kvs, rfl, s1.gr.s _ _ ha, lookup_none (by rw [ek]; exact nm), i, G1, ci, s1.gr.s, sb.inn i1, by rw [← ei]; exact .one r1, fun v d G' H' g j r hR => ?_, fun c fs od G' H' g j _ z => nx c fs z⟩
  obtain ⟨g', j'⟩ := sb.up i1 g j
  exact .back i1 g1 ⟨d, G', g', j', r, q d hR⟩
/-- e.f, a property -/
theorem tk_prop {C : Addr} {ι : Type} {M : ι → Md} {Cc : ι → Prop} {A : ι → List D} {R : ι → D → Prop} {n : Nat} (F : KnG B.X.prog B.X.w B.X.K B.X.mg B.X.base B.S x n C M Cc A R) (c : Cls B.X.K C) {rm : Nat} (hr : Room rm B.X.A)
    (h : Tk B ρ e fun d => (∃ fs ds, d = .ins C fs ds) ∧ ∃ i, [d] = A i ∧ Cc i ∧ Sub (M i) B.M ∧ ∀ d', R i d' → k d') (hrm : n + 1 ≤ rm := by decide)
    (hab : attributeBase e x B.X.env (eval e B.X.env) = eval e B.X.env := by rfl) : Tk B ρ (.Attribute e x pos) k := Tk.of fun σ H G s => by
  obtain ⟨p, g, fd, ps, hp, hb, F1⟩ := F.ex
  refine ⟨_, pe_prop pe_W c hp F1 (hr.mono hrm) hb .nil passX0 hab, h.te s fun v d G1 H1 g1 i1 r1 h1 => ?_⟩
  obtain ⟨⟨fs, ds, rfl⟩, i, ei, ci, sb, q⟩ := h1
  obtain ⟨a, dx, kvs, rfl, ha, ek, ra⟩ := id r1.insI
  have s1 := s.step g1 i1
  refine ⟨a, dx, kvs, rfl, s1.gr.s _ _ ha, i, G1, ci, s1.gr.s, sb.inn i1, by rw [← ei]; exact .one r1, fun v d G' H' g j r hR => ?_, fun c fs od G' H' g j _ z => z.elim⟩
  obtain ⟨g', j'⟩ := sb.up i1 g j
  exact .back i1 g1 ⟨d, G', g', j', r, q d hR⟩
end
end Fz
/-! max of three; dicts of pairs; a comprehension over a dict's keys -/
namespace Fz
open PySem PySem.Spec PyProof.Rows L2
theorem max3_args (x y z : Value) : argsOk "max" ⟨[x, y, z], []⟩ := by unfold argsOk; kernel_rfl
section
variable {prog : Program} {w : World} {A : Around} {E : Value → Shared → Prop} {s : Shared}
theorem max3_call {x y z : Value} {Q : Value → Shared → Prop}
    (hit : wpAny (model prog w) A.in1 (pyIter (.ref s.heap.objs.size)) (fun it t => ∃ I fp wr n R St bt, it = .ref I ∧ Walks prog w A.in1 I fp wr n R St ∧ St 0 t.heap ∧ (∀ b ∈ fp, b < t.heap.objs.size) ∧ 0 < n ∧ CmpOf prog w A.in1 .Gt R bt ∧
      ∀ v g tk, R (argBest bt (n - 1)) v → (∀ b o, b ∉ wr → t.heap.get? b = some o → g.get? b = some o) → Q v { t with heap := g, toks := tk }) E
      { s with heap := s.heap.push { cls := .type "tuple", data := .seq #[x, y, z] } }) : wpAny (model prog w) A (call (.builtin "max") [x, y, z]) Q E s := by
  have nm : (toString "max" ++ toString ".loop" : String) = "max.loop" := by decide
  refine call_function_tree F.kind_max F.plain_max F.entry_max (max3_args x y z) ?_
  show wpAny _ A.in1 (Builtin.Builtins.bindParams "max" ["key", "default"] 0 ⟨[], []⟩ >>= fun _ => _) _ _ s
  refine wpAny_bind (wpAny_of_eq (rfl : Builtin.Builtins.bindParams "max" ["key", "default"] 0 ⟨[], []⟩ = pure [none, none]) ?_)
  show wpAny _ A.in1 (newTuple [x, y, z] >>= fun _ => _) _ _ s
  refine wpAny_bind (wpAny_newObj_type (wpAny_bind (wpAny_mono hit (fun it t ht => ?_) fun _ _ e => e)))
  obtain ⟨I, fp, wr, n, R, St, bt, rfl, W, h0, hfp, hn, hc, hQ⟩ := ht
  refine wpAny_bind (wpAny_newObj_type ?_)
  have hS : t.heap.objs.size ∉ fp := fun m => Nat.lt_irrefl _ (hfp _ m)
  rw [nm]
  exact wpAny_pure ⟨plainId_quiet F.plain_max_loop _, codeAny_max_loop_first W bt hc t.heap.objs.size hS hn (W.frame _ _ _ h0 fun b _ o e => Heap.get?_push_of_some _ e) (Heap.get?_push_size _ rfl) fun v g tk hR hk => hQ v g tk hR fun b o hb e => hk b o hb (Nat.ne_of_lt (Heap.lt_size e)) (Heap.get?_push_of_some _ e)⟩
theorem max3_ints {a b c : Int} {t u z : Tok} {Q : Value → Shared → Prop} (hh : A.handled = none)
    (h : ∀ g tk m tm, (∀ d o, s.heap.get? d = some o → g.get? d = some o) → (m = a ∨ m = b ∨ m = c) → a ≤ m → b ≤ m → c ≤ m → Q (.int m tm) { s with heap := g, toks := tk }) :
    wpAny (model prog w) A (call (.builtin "max") [.int a t, .int b u, .int c z]) Q E s := by
  generalize hx : (#[(a, t), (b, u), (c, z)] : Array (Int × Tok)) = xs
  have eI : (#[.int a t, .int b u, .int c z] : Array Value) = intItems xs := by rw [← hx]; simp [intItems]
  have hT : (s.heap.push { cls := .type "tuple", data := .seq #[.int a t, .int b u, .int c z] }).IsTuple s.heap.objs.size (intItems xs) := ⟨_, Heap.get?_push_size _ rfl, rfl, 0, by rw [← eI]⟩
  refine max3_call (wpAny_pyIter_tuple hT ?_)
  have hs1 : (s.heap.push { cls := .type "tuple", data := .seq #[.int a t, .int b u, .int c z] }).objs.size = s.heap.objs.size + 1 := Heap.size_push ..
  have hn3 : (intItems xs).size = 3 := by rw [← eI]; rfl
  refine ⟨_, [_, s.heap.objs.size], [_], _, _, _, _, rfl, Walks.tuple (A := A.in1) hh _ s.heap.objs.size (by rw [hs1]; exact Nat.ne_of_lt (Nat.lt_succ_self _)) (intItems xs),
    ⟨⟨_, Heap.get?_push_size _ rfl, rfl, rfl⟩, hT.push _⟩, fun d hd => ?_, by rw [hn3]; decide, CmpOf.ints_gt (numAt xs) (fun _ _ => intItems_at), fun v g tk hP hk => ?_⟩
  · show d < ((s.heap.push _).push _).objs.size
    rw [Heap.size_push, hs1]
    simp only [List.mem_cons, List.not_mem_nil, or_false] at hd
    rcases hd with rfl | rfl
    · rw [hs1]; exact Nat.lt_succ_self _
    · exact Nat.lt_succ_of_lt (Nat.lt_succ_self _)
  · have hold : ∀ d o, s.heap.get? d = some o → g.get? d = some o := fun d o e => by
      refine hk d o (fun hm => ?_) (Heap.get?_push_of_some _ (Heap.get?_push_of_some _ e))
      have e1 : d = (s.heap.push { cls := .type "tuple", data := .seq #[.int a t, .int b u, .int c z] }).objs.size := by simpa using hm
      have := Heap.lt_size e
      rw [e1, hs1] at this
      exact Nat.lt_irrefl _ (Nat.lt_of_succ_lt this)
    have gt := argBest_gt (numAt xs) 2
    have hP2 : (intItems xs)[argBest (fun i j => decide (numAt xs i > numAt xs j)) 2]? = some v := by
      have := hP
      rw [hn3] at this
      exact this
    generalize argBest (fun i j => decide (numAt xs i > numAt xs j)) 2 = k at gt hP2
    obtain ⟨tm, rfl⟩ := intItems_at hP2
    have n0 : numAt xs 0 = a := by rw [← hx]; rfl
    have n1 : numAt xs 1 = b := by rw [← hx]; rfl
    have n2 : numAt xs 2 = c := by rw [← hx]; rfl
    have g0 := gt.2 0 (by omega)
    have g1 := gt.2 1 (by omega)
    have g2 := gt.2 2 (by omega)
    rw [n0] at g0
    rw [n1] at g1
    rw [n2] at g2
    refine h g tk _ tm hold ?_ g0 g1 g2
    rcases k with _ | _ | _ | k
    · exact .inl n0
    · exact .inr (.inl n1)
    · exact .inr (.inr n2)
    · have := gt.1
      omega
end
theorem cr_max3 {X : Cx} (hc : X.calm = true) : CallR X (.builtin "max") (fun xs H Q => ∃ i j k, xs = [.int i, .int j, .int k] ∧ ∀ m, (m = i ∨ m = j ∨ m = k) → i ≤ m → j ≤ m → k ≤ m → Q (.int m) H) := by
  intro pins s σ H xs us Q I r h
  obtain ⟨i, j, k, rfl, q⟩ := h
  cases r with
  | cons r1 r =>
    obtain ⟨u, w', rfl, ⟨t', rfl⟩, ⟨t'', rfl⟩⟩ := vals2 r
    obtain ⟨t, rfl⟩ := r1
    exact max3_ints (I.ok.hd hc) fun g tk m tm hk h1 h2 h3 h4 => ⟨.int m, H, I.kept hk, ⟨_, rfl⟩, q m h1 h2 h3 h4⟩
section
variable {B : Bx} {ρ : List En} {a b c e : Expr} {k : D → Prop} {pos p p' p'' : Pos} {x y : Str}
def k3I (f : Int → Int → Int → Prop) : D → D → D → Prop
  | .int i, .int j, .int l => f i j l
  | _, _, _ => False
theorem tk_max3 (hc : B.X.calm = true) (hm : B.X.mg "max" = none) (h : Tk B ρ a fun x => Tk B ρ b fun y => Tk B ρ c fun z => k3I (fun i j l => ∀ m, (m = i ∨ m = j ∨ m = l) → i ≤ m → j ≤ m → l ≤ m → k (.int m)) x y z) (hg : Gl B.X "max" := by rfl)
    (he : starEach [a, b, c] B.X.env = (false, eval a B.X.env) :: starEach [b, c] B.X.env := by rfl) (he2 : starEach [b, c] B.X.env = (false, eval b B.X.env) :: starEach [c] B.X.env := by rfl) (he3 : starEach [c] B.X.env = (false, eval c B.X.env) :: starEach [] B.X.env := by rfl)
    (hpl : (backTo pos (starEach [b, c] B.X.env)).any (·.1) = false := by rfl) : Tk B ρ (.Call (.Name "max" p) [a, b, c] [] pos) k :=
  tk_blt (cr_max3 hc) hm boot_max (ko := k3 fun x y z => k3I (fun i j l => ∀ m, (m = i ∨ m = j ∨ m = l) → i ≤ m → j ≤ m → l ≤ m → k (.int m)) x y z) (ta_three h he he2 he3)
    (fun vs ds G H sg i r h => by
      rcases ds with _ | ⟨d, _ | ⟨e, _ | ⟨g, _ | ⟨t, ts⟩⟩⟩⟩
      · exact h.elim
      · exact h.elim
      · exact h.elim
      · obtain ⟨v, w, u, rfl, r1, r2, r3⟩ := repAll3 r
        have h' : k3I (fun i j l => ∀ m, (m = i ∨ m = j ∨ m = l) → i ≤ m → j ≤ m → l ≤ m → k (.int m)) d e g := h
        cases d with
        | int i1 =>
          cases e with
          | int j1 =>
            cases g with
            | int l1 => exact ⟨i1, j1, l1, by rw [r1.intI, r2.intI, r3.intI], fun m h1 h2 h3 h4 => .val sg i (.int m) (h' m h1 h2 h3 h4)⟩
            | _ => exact h'.elim
          | _ => exact h'.elim
        | _ => exact h'.elim
      · exact h.elim) hg (by decide) (by decide) he hpl
/-- dict(pairs), the keys texts that are apart -/
def kDP (f : List Str → List D → Prop) : D → Prop := fun d => ∃ kds : List (Str × D), d = .lst (kds.map fun q => .tup [.str q.1, q.2]) ∧ (kds.map fun q => (Sum.inr q.1 : Key)).Nodup ∧ f (kds.map (·.1)) (kds.map (·.2))
theorem pairs_of {K : PySem.W.Frag} {S : Addr} {G : Hp} : ∀ {vs : List V} {kds : List (Str × D)}, RepAll K S G vs (kds.map fun q => .tup [.str q.1, q.2]) → ∃ (ps : List Addr) (kvs : List (Key × V)), vs = ps.map V.ref ∧ Paired (fun p kv => SqT K G p [kV kv.1, kv.2]) ps kvs ∧ kvs.map (·.1) = kds.map (fun q => (Sum.inr q.1 : Key)) ∧ RepAll K S G (kvs.map (·.2)) (kds.map (·.2))
  | _, [], .nil => ⟨[], [], rfl, .nil, rfl, .nil⟩
  | _, q :: kds, .cons r a => by
    obtain ⟨p, xs, rfl, hx, ra⟩ := r.tupI
    obtain ⟨v, w, rfl, r1, r2⟩ := repAll2 ra
    obtain ⟨ps, kvs, rfl, hp, hk, hr⟩ := pairs_of a
    refine ⟨p :: ps, (.inr q.1, w) :: kvs, rfl, .cons ?_ hp, by rw [List.map_cons, List.map_cons, hk], .cons r2 hr⟩
    rw [r1.strI] at hx
    exact hx
theorem paired_mono {α β : Type} {F F' : α → β → Prop} (h : ∀ a b, F a b → F' a b) : ∀ {l : List α} {r : List β}, Paired F l r → Paired F' l r
  | _, _, .nil => .nil
  | _, _, .cons a t => .cons (h _ _ a) (paired_mono h t)
theorem tk_dictP (hc : B.X.calm = true) (hm : B.X.mg "dict" = none) (h : Tk B ρ a (kDP fun ns ds => k (.dct (ns.map Sum.inr) ds))) (hg : Gl B.X "dict" := by rfl)
    (he : starEach (a :: []) B.X.env = (false, eval a B.X.env) :: starEach [] B.X.env := by rfl) (hpl : (backTo pos (starEach [] B.X.env)).any (·.1) = false := by rfl) : Tk B ρ (.Call (.Name "dict" p) [a] [] pos) k :=
  tk_bty (call_dictP hc) hm boot_dictT (ta_one h he)
    (fun vs ds G H sg i r h => by
      obtain ⟨v, d, rfl, rv, hd⟩ := ko1 r h
      obtain ⟨kds, rfl, nd, hk⟩ := hd
      obtain ⟨q, xs, rfl, hq, ra⟩ := rv.lstI
      obtain ⟨ps, kvs, rfl, hp, ek, hr⟩ := pairs_of ra
      refine ⟨q, ps, kvs, rfl, SqL.of (sg _ _ hq), paired_mono (fun _ _ z => same_seqT sg z) hp, fun l n => ?_⟩
      have nd' : (kvs.map (·.1)).Nodup := by rw [ek]; exact nd
      rw [mergeK_nil nd']
      refine .new sg i n (.dct (xs := kvs.map (·.2)) ?_ rfl hr) hk
      rw [ek, List.map_map]
      rfl) hg (by decide) (by decide) he hpl
theorem repAll_of {K : PySem.W.Frag} {S : Addr} {G : Hp} : ∀ {vs : List V} {ds : List D}, vs.length = ds.length → (∀ (n : Nat) v d, vs[n]? = some v → ds[n]? = some d → Rep K S G v d) → RepAll K S G vs ds
  | [], [], _, _ => .nil
  | v :: vs, d :: ds, hl, h => .cons (h 0 v d rfl rfl) (repAll_of (Nat.succ.inj hl) fun n v' d' h1 h2 => h (n + 1) v' d' h1 h2)
/-- [(key, c * d[key]) for key in d], d of ints -/
theorem tk_dbl (j i : Nat) {ns : List Str} {vs : List Int} {cc : Int} {scope : Scope} {p1 p2 p3 p4 p5 p6 p7 p8 : Pos} {x1 kk} (hr : ρ[j]? = some (.val (.dct (ns.map Sum.inr) (vs.map .int)))) (hlen : ns.length = vs.length) (h1000 : vs.length < 1000) (nd : (ns.map (Sum.inr : Str → Key)).Nodup)
    (hmul : ∀ v ∈ vs, CMulW cc v) (hk : k (.lst ((ns.zip vs).map fun q => .tup [.str q.1, .int (cc * q.2)])))
    (hc : B.X.calm = true) (hN : B.X.N.Nodup) (hu : B.X.A.units + 1 < cLine) (ok : BlkOk B.X.N B.X.env.scope scope [(y, i)])
    (hg : ∀ (s : Shared) (H : Hp) (C : Addr) (cl : List (Str × Addr)) (fp : List Addr), PG (B.X.blk s H scope (compEnvC scope cl C B.X.env) fp) (.Name y p7) (gName i))
    (hij : i ≠ j) (hiρ : i < ρ.length) (hNj : B.X.N[j]? = some x := by rfl) (hv : Vis B.X.env.scope x := by first | exact Or.inl rfl | exact Or.inr (Or.inl rfl) | exact Or.inr (Or.inr rfl)) (hNi : B.X.N[i]? = some y := by rfl)
    (hb1 : ∀ (s : Shared) (H : Hp) (C : Addr) (cl : List (Str × Addr)) (fp : List Addr), Vis (compEnvC scope cl C B.X.env).scope y ∧ Vis (compEnvC scope cl C B.X.env).scope x)
    (hd : (x == ("__debug__" : Str)) = false := by decide) (hcd : (x == ("__classdict__" : Str)) = false := by decide) (hd2 : (y == ("__debug__" : Str)) = false := by decide) (hcd2 : (y == ("__classdict__" : Str)) = false := by decide)
    (hs1 : ∀ (s : Shared) (H : Hp) (C : Addr) (cl : List (Str × Addr)) (fp : List Addr), starEach [.Name y p1, .BinOp (.Constant (.int cc) kk p2) .Mult (.Subscript (.Name x p3) (.Name y p4) p5) p6] (B.X.blk s H scope (compEnvC scope cl C B.X.env) fp).env = (false, eval (.Name y p1) (B.X.blk s H scope (compEnvC scope cl C B.X.env) fp).env) :: starEach [.BinOp (.Constant (.int cc) kk p2) .Mult (.Subscript (.Name x p3) (.Name y p4) p5) p6] (B.X.blk s H scope (compEnvC scope cl C B.X.env) fp).env := by intros; rfl)
    (hs2 : ∀ (s : Shared) (H : Hp) (C : Addr) (cl : List (Str × Addr)) (fp : List Addr), starEach [.BinOp (.Constant (.int cc) kk p2) .Mult (.Subscript (.Name x p3) (.Name y p4) p5) p6] (B.X.blk s H scope (compEnvC scope cl C B.X.env) fp).env = (false, eval (.BinOp (.Constant (.int cc) kk p2) .Mult (.Subscript (.Name x p3) (.Name y p4) p5) p6) (B.X.blk s H scope (compEnvC scope cl C B.X.env) fp).env) :: starEach [] (B.X.blk s H scope (compEnvC scope cl C B.X.env) fp).env := by intros; rfl)
    (hfs : ∀ v, foldedSetIterable (.Name x p8) B.X.env v = pure v := by intro _; rfl) :
    Tk B ρ (.ListComp (.Tuple [.Name y p1, .BinOp (.Constant (.int cc) kk p2) .Mult (.Subscript (.Name x p3) (.Name y p4) p5) p6] x1 p') [⟨.Name y p7, .Name x p8, [], 0⟩] scope pos) k := Tk.of fun σ H G s => by
  obtain ⟨v0, ev, rv⟩ := s.va j _ hr
  obtain ⟨a, kvs, rfl, ga, ek, ra⟩ := rv.dctI
  have ev2 := ra.mapInt
  have ha : H a = some (.dK kvs) := s.gr.s _ _ ga
  have hl : kvs.length = vs.length := by have := congrArg List.length ev2; rwa [List.length_map, List.length_map] at this
  have at_ : ∀ t, t < vs.length → ∃ n v, ns[t]? = some n ∧ vs[t]? = some v ∧ v ∈ vs ∧ kvs[t]? = some (.inr n, .int v) ∧ valV kvs (.inr n) = some (.int v) := fun t ht => by
    have h1 : (kvs.map (·.1))[t]? = some (.inr ns[t]) := by rw [ek, List.getElem?_map, List.getElem?_eq_getElem (by omega)]; rfl
    have h2 : (kvs.map (·.2))[t]? = some (.int vs[t]) := by rw [ev2, List.getElem?_map, List.getElem?_eq_getElem ht]; rfl
    refine ⟨ns[t], vs[t], List.getElem?_eq_getElem _, List.getElem?_eq_getElem _, List.getElem_mem ht, ?_, valV_at (i := t) (by rw [ek]; exact nd) h1 h2⟩
    rw [List.getElem?_map] at h1 h2
    obtain ⟨q, hq, e1⟩ := Option.map_eq_some_iff.mp h1
    rw [hq] at h2
    have e2 := Option.some.inj h2
    rw [hq]
    exact congrArg some (Prod.ext e1 e2)
  refine ⟨_, pe_lock (pe_lc (own := [(y, i)]) (g := gName i) (tt := tYes) hc hN (pi_keys (pe_var hNj hv hd hcd)) ok hg (fun _ _ _ _ _ => pts_nil) (fun s' H' C cl fp => pe_tup (pa_cons (pe_var hNi (hb1 s' H' C cl fp).1 hd2 hcd2) (pa_cons (pe_op op_mulW pe_int (pe_dget hu (pe_var hNj (hb1 s' H' C cl fp).2 hd hcd) (pe_var hNi (hb1 s' H' C cl fp).1 hd2 hcd2) fun _ _ => rfl)) pa_nil (hs2 s' H' C cl fp)) (hs1 s' H' C cl fp))) hfs), a, .dK kvs, ha, trivial, fun od => ⟨.ref a, ev, a, od, rfl, .inl ⟨kvs, upd_same, fun Dd hD => ?_⟩⟩⟩
  have hDa : Dd ≠ a := fun z => by rw [z, upd_same] at hD; cases hD
  have hD0 : H Dd = none := by rw [upd_ne hDa] at hD; exact hD
  -- what stands ahead of turn t
  let Pv : Nat → Hp → Prop := fun (t : Nat) (H' : Hp) => ∃ ts : List Addr, ts.length = t ∧ H' Dd = some (.lst (ts.map V.ref)) ∧ H' a = some (.frz od (.dK kvs)) ∧ (∀ b o, b ≠ a → H b = some o → H' b = some o) ∧
    ∀ (n : Nat) (p : Addr), ts[n]? = some p → H p = none ∧ p ≠ Dd ∧ ∃ nm v, ns[n]? = some nm ∧ vs[n]? = some v ∧ H' p = some (.tup [.str nm, .int (cc * v)])
  have start : Pv 0 (upd (upd H a (.frz od (.dK kvs))) Dd (.lst [])) := ⟨[], rfl, upd_same, by rw [upd_ne (Ne.symm hDa), upd_same], fun b o nb e => by rw [upd_ne (ne_of_none e hD0), upd_ne nb]; exact e, fun n p e => by simp at e⟩
  refine ⟨fun t m H' => m = kvs.length - t ∧ t ≤ kvs.length ∧ Pv t H', ⟨kvs.length, rfl, Nat.zero_le _, start⟩, fun t m H' hw => ?_⟩
  obtain ⟨rfl, ht, ts, hts, hDd, hfa, hold, hti⟩ := hw
  by_cases hlt : t < kvs.length
  · refine .inr ⟨⟨hfa, hlt⟩, fun H'' => ∃ m', m' < kvs.length - t ∧ m' = kvs.length - (t + 1) ∧ t + 1 ≤ kvs.length ∧ Pv (t + 1) H'', fun H'' ⟨m', a1, a2, a3, a4⟩ => ⟨m', a1, a2, a3, a4⟩, fun xk H'' ⟨eH, kk', vv, e1, e2⟩ => ?_⟩
    subst eH
    obtain ⟨n, v, en, evv, hm, ekv, hval⟩ := at_ t (by omega)
    rw [ekv] at e1
    cases e1
    subst e2
    have hli : i < σ.length := by rw [s.len]; exact hiρ
    have hli2 : i < (wipe σ ([(y, i)].map (·.2))).length := by rw [wipe_length]; exact hli
    have z1 : ((wipe σ ([(y, i)].map (·.2))).set i (some (.str n)))[i]? = some (some (.str n)) := List.getElem?_set_self hli2
    have z2 : ((wipe σ ([(y, i)].map (·.2))).set i (some (.str n)))[j]? = some (some (.ref a)) := by
      rw [List.getElem?_set_ne hij]
      show (σ.set i none)[j]? = _
      rw [List.getElem?_set_ne hij]
      exact ev
    refine ⟨(wipe_set_mem (i := i) (vs := [i]) (σ := wipe σ [i]) (List.mem_singleton.mpr rfl)).trans (wipe_twice σ [i]), ?_⟩
    refine ⟨_, z1, _, z2, _, z1, a, .int v, rfl, .inl ⟨kvs, .inr n, .inr ⟨od, hfa⟩, rfl, hval.symm⟩, cc, v, rfl, rfl, hmul v hm, ?_⟩
    refine ⟨by rw [sizeLine_eq]; show 2 ≤ _; omega, fun q hq => ?_⟩
    have hqD : q ≠ Dd := fun z => by rw [z, hDd] at hq; cases hq
    have hqa : q ≠ a := fun z => by rw [z, hfa] at hq; cases hq
    refine ⟨ts.map V.ref, by rw [upd_ne (Ne.symm hqD)]; exact hDd, by rw [List.length_map, hts, sizeLine_eq]; omega, kvs.length - (t + 1), by omega, rfl, by omega, ts ++ [q], by rw [List.length_append, hts]; rfl, ?_, ?_, fun b o nb e => ?_, fun n' p' e => ?_⟩
    · rw [upd_same, List.map_append]
      rfl
    · rw [upd_ne (Ne.symm hDa), upd_ne (Ne.symm hqa)]
      exact hfa
    · have e2 := hold b o nb e
      rw [upd_ne (ne_of_none e hD0), upd_ne (ne_of_none e2 hq)]
      exact e2
    · by_cases hn : n' < ts.length
      · rw [List.getElem?_append_left hn] at e
        obtain ⟨b1, b2, nm, v', b3, b4, b5⟩ := hti n' p' e
        refine ⟨b1, b2, nm, v', b3, b4, ?_⟩
        rw [upd_ne b2, upd_ne (ne_of_none b5 hq)]
        exact b5
      · have e3 : n' = ts.length := by
          have := (List.getElem?_eq_some_iff.mp e).1
          rw [List.length_append] at this
          have : n' < ts.length + 1 := this
          omega
        subst e3
        rw [List.getElem?_concat_length] at e
        cases e
        have hq0 : H q = none := by
          cases hh : H q with
          | none => rfl
          | some o => rw [hold q o hqa hh] at hq; cases hq
        rw [hts]
        exact ⟨hq0, hqD, n, v, en, evv, by rw [upd_ne hqD, upd_same]⟩
  · have et : t = kvs.length := by omega
    subst et
    refine .inl ⟨⟨hfa, Nat.le_refl _⟩, hfa, ?_⟩
    have inH : ∀ p, p ∈ ts → H p = none ∧ p ≠ Dd ∧ ∃ n nm v, ns[n]? = some nm ∧ vs[n]? = some v ∧ ts[n]? = some p ∧ H' p = some (.tup [.str nm, .int (cc * v)]) := fun p hp => by
      obtain ⟨n, hn⟩ := List.getElem?_of_mem hp
      obtain ⟨b1, b2, nm, v, b3, b4, b5⟩ := hti n p hn
      exact ⟨b1, b2, n, nm, v, b3, b4, hn, b5⟩
    have H2at : ∀ b o, H b = some o → (upd H' a (.dK kvs)) b = some o := fun b o e => by
      by_cases hb : b = a
      · subst hb
        rw [ha] at e
        cases e
        exact upd_same
      · rw [upd_ne hb]
        exact hold b o hb e
    let G2 : Hp := fun b => if b = Dd ∨ b ∈ ts then (upd H' a (.dK kvs)) b else G b
    have out : ∀ b o, G b = some o → ¬ (b = Dd ∨ b ∈ ts) := fun b o e z => by
      have e2 := s.gr.s b o e
      rcases z with z | z
      · rw [z, hD0] at e2; cases e2
      · rw [(inH b z).1] at e2; cases e2
    have g1 : Gr noW G H G2 (upd H' a (.dK kvs)) := by
      refine ⟨fun b o e => ?_, fun b o e => ?_, fun b o _ e => H2at b o e, fun b o e1 e2 => ?_⟩
      · show (if b = Dd ∨ b ∈ ts then _ else _) = _
        rw [if_neg (out b o e)]
        exact e
      · have e' : (if b = Dd ∨ b ∈ ts then (upd H' a (.dK kvs)) b else G b) = some o := e
        split at e'
        · exact e'
        · exact H2at b o (s.gr.s b o e')
      · show (if b = Dd ∨ b ∈ ts then _ else _) = _
        rw [if_neg (fun z => by
          rcases z with z | z
          · rw [z, hD0] at e1; cases e1
          · rw [(inH b z).1] at e1; cases e1)]
        exact e2
    obtain ⟨g2, i2⟩ := Gr.up s.inv g1
    refine ⟨_, G2, g2, i2, .obj (o := .lst (ts.map V.ref)) ?_ (.lst (repAll_of ?_ fun n v d h1 h2 => ?_)), hk⟩
    · show (if Dd = Dd ∨ Dd ∈ ts then _ else _) = _
      rw [if_pos (.inl rfl), upd_ne hDa]
      exact hDd
    · rw [List.length_map, List.length_map, List.length_zip, hts]
      omega
    · rw [List.getElem?_map] at h1 h2
      obtain ⟨p, hp, rfl⟩ := Option.map_eq_some_iff.mp h1
      obtain ⟨q, hq, rfl⟩ := Option.map_eq_some_iff.mp h2
      obtain ⟨b1, b2, nm, v, b3, b4, b5⟩ := hti n p hp
      rw [List.getElem?_zip_eq_some] at hq
      rw [hq.1] at b3
      rw [hq.2] at b4
      cases b3
      cases b4
      have hpa : p ≠ a := fun z => by rw [z, ha] at b1; cases b1
      refine .tup (xs := [.str q.1, .int (cc * q.2)]) (SqT.of ?_) (.cons (.str _) (.cons (.int _) .nil))
      show (if p = Dd ∨ p ∈ ts then _ else _) = _
      rw [if_pos (.inr (List.mem_of_getElem? hp)), upd_ne hpa]
      exact b5
end
end Fz
/-! errors without fields: C(), C's own __init__ writing nothing -/
namespace Fz
open PySem PySem.Spec PyProof.Rows L2
theorem bare_end {X : Cx} {pins : List (Addr × Obj)} {σ : L2.St} {H1 H2 : Hp} {hp hp2 h2 : Heap} {ga gb : Array GenState} {da db : Drawn} {ta tb : Nat} {oa ob : OsState} {a C : Addr} (J1 : Inv X pins σ H1 ⟨hp, ga, da, ta, oa⟩)
    (la : hp.objs.size ≤ a) (kp : ∀ b o, hp.get? b = some o → hp2.get? b = some o) (U2 : Un (frs X.stack) [] (upd H1 a (exo a C none)) H2 hp2 h2) (ok2 : HOk X.prog X.w H2 h2) (eo : ob = oa) (ab : AllBare gb) (ea : H2 a = some (exo a C none)) :
    ∃ (t0 : Addr) (G : Heap), Inv X pins σ (del H2 a) ⟨G, gb, db, tb, ob⟩ ∧ (∀ b o, G.get? b = some o → h2.get? b = some o) ∧ G.get? a = none ∧
      h2.get? a = some ({ cls := .ref C, dict := none, data := .fields #[.ref t0, .none, .none, .none, .bool false, .none] } : Obj) := by
  obtain ⟨t0, at2⟩ := exo_at ok2 ea
  have fresh : H1 a = none := J1.hok.fresh la
  obtain ⟨G, ga1, ga2⟩ := restrict h2 fun b => decide (b ≠ a)
  have same : ∀ b, b ≠ a → G.get? b = h2.get? b := fun b nb => ga1 b (decide_eq_true nb)
  have gone : G.get? a = none := ga2 a (by simp)
  have old : ∀ {b : Addr} {o : Obj}, hp.get? b = some o → b ≠ a := fun {b o} e => Nat.ne_of_lt (Nat.lt_of_lt_of_le (Heap.lt_size e) la)
  have none1 : ∀ {b : Addr}, b ≠ a → H1 b = none → upd H1 a (exo a C none) b = none := fun {b} nb e => (upd_ne nb).trans e
  have U : Un (frs X.stack) [] H1 (del H2 a) hp G := {
    keep := fun b o e n hf hx => (same b (old e)).trans (U2.keep b o (kp b o e) (none1 (old e) n) hf hx)
    slot := fun b o e n hf hx => by
      rw [same b (old e)]
      exact U2.slot b o (kp b o e) (none1 (old e) n) hf hx
    free := fun b o e n hx => (del_ne (old e)).trans (U2.free b o (kp b o e) (none1 (old e) n) hx)
    there := fun b o e hx => by
      rw [same b (old e)]
      exact U2.there b o (kp b o e) hx
    tups := fun b xs e => (del_ne (ne_of_none e fresh)).trans (U2.tups b xs ((upd_ne (ne_of_none e fresh)).trans e))
    frzs := fun b o v e => (del_ne (ne_of_none e fresh)).trans (U2.frzs b o v ((upd_ne (ne_of_none e fresh)).trans e))
    tbls := fun b ps e => by
      obtain ⟨more, q⟩ := U2.tbls b ps ((upd_ne (ne_of_none e fresh)).trans e)
      exact ⟨more, (del_ne (ne_of_none e fresh)).trans q⟩ }
  have ok3 : HOk X.prog X.w (del H2 a) G := fun b o e => by
    have nba : b ≠ a := fun z => by
      rw [z, del_same] at e
      cases e
    rw [del_ne nba] at e
    have nown : ∀ {c : Addr}, H2 c = some (.own b) → c ≠ a := fun {c} hc => at_ne ea hc exo_own
    exact (ok2 b o e).stay (fun c v hc y => by
        have nca : c ≠ a := by
          rcases hc with hc | hc
          · rw [hc]
            exact nba
          · exact nown hc
        exact (same c nca).trans y)
      (fun c hc => (del_ne (nown hc)).trans hc) (fun c xs hc => (del_ne (at_ne ea hc exo_tup)).trans hc)
  refine ⟨t0, G, J1.call' (ch := []) eo U ok3 ab (fun b z => absurd z (by simp)), fun b o e => ?_, gone, at2⟩
  by_cases nb : b = a
  · rw [nb, gone] at e
    cases e
  · exact (same b nb).symm.trans e
def tMk0 (C : Addr) (sp : Sp) : L2.St → Hp → XK → Prop := fun _ H Q => ∀ a, H a = none → sp [.ref a] (upd H a (exo a C none)) (fun v H2 => v = .non ∧ H2 a = some (exo a C none) ∧ Q (.ref C) none (del H2 a)) (fun _ _ _ => False)
theorem pmk_bare {X : Cx} {CX : CXT} {x : Str} {p pos : Pos} {C fI : Addr} {k : Nat} {fd : FuncData} {ps : List Str} {sp : Sp} (T : OexC X.K C) (iC : PySem.W.findIn X.K (.ref C) "__init__" = some (some (.ref fI))) (tI : PySem.W.typeIn X.K (.ref fI) = some (.type "function"))
    (F1 : FnOk X.prog X.w X.K X.mg X.base CX k fI fd ps sp) (hr : Room (k + 1) X.A) (hb : Binds X.K fd ps []) (hx : Passes CX X (fun _ _ _ => False)) (hg : Gl X x) (hm : X.mg x = some (.ref C)) (hdb : (x == ("__debug__" : Str)) = false := by decide) :
    PMk X (.Call (.Name x p) [] [] pos) (tMk0 C sp) := by
  intro pins s σ H Q I h
  obtain ⟨nm, q, N, bs, bm, sn, sub, ab, col, dd, k0, k1, k2, k3, k5, hC, hbm⟩ := T.cls
  refine wpAny_Call_Name_kw (ld_glob I hg hm ?_ hdb)
  refine PySem.W.callWith_K0 I.kIn T.kC ?_
  show wpAny _ _ (call (.ref C) []) _ _ _
  obtain ⟨hp, g, dr, tk, os⟩ := s
  have le1 : hp.objs.size ≤ hp.objs.size + 1 := Nat.le_succ _
  have fr1 : H (hp.objs.size + 1) = none := I.hok.fresh le1
  have hq := h (hp.objs.size + 1) fr1
  have kp : ∀ b o, hp.get? b = some o → ((hp.push (PySem.W.kdv_tup [])).push (PySem.HandSPX.excO C hp.objs.size)).get? b = some o := fun b o e => Heap.get?_push_of_some _ (Heap.get?_push_of_some _ e)
  have hget : ((hp.push (PySem.W.kdv_tup [])).push (PySem.HandSPX.excO C hp.objs.size)).get? (hp.objs.size + 1) = some (PySem.HandSPX.excO C hp.objs.size) := by heap_get
  have I2 : Inv X pins σ (upd H (hp.objs.size + 1) (exo (hp.objs.size + 1) C none)) ⟨(hp.push (PySem.W.kdv_tup [])).push (PySem.HandSPX.excO C hp.objs.size), g, dr, tk, os⟩ :=
    I.laid (t' := tk) (a := hp.objs.size + 1) (o := exo (hp.objs.size + 1) C none) (h' := (hp.push (PySem.W.kdv_tup [])).push (PySem.HandSPX.excO C hp.objs.size)) kp le1 (exo_ok hget)
  have rv1 : Vals [V.ref (hp.objs.size + 1)] [Value.ref (hp.objs.size + 1)] := .cons rfl .nil
  have hlen : ([Value.ref (hp.objs.size + 1)] ++ ([] : List Value)).length = ps.length := (F1.len _ _ _ _ hq)
  refine wpAny_call (PySem.HandSPX.call_own F.excBase_ValueError (fun Y => PySem.HandSPX.refsVE_contains Y bm hbm) (I.kIn _ _ hC) (PySem.W.looks_findIn I.kIn iC) (fun self => PySem.W.bind_fn I.kIn self tI) (Nat.zero_le _)
    (codeAny_mono (F1.run _ X.stack _ _ ⟨[Value.ref (hp.objs.size + 1)], []⟩ [Value.ref (hp.objs.size + 1)] _ _ (fun _ _ _ => False) (hr.make C [] []) (I2.env0.make C [] []) (hb _ [Value.ref (hp.objs.size + 1)] I2.kIn hlen) rv1 hq) fun r s' hq' => ?_))
  cases r with
  | error er => exact hx pins σ _ _ er s' I2 hq'
  | ok fl =>
    cases fl with
    | next => exact False.elim hq'
    | brk => exact False.elim hq'
    | cont => exact False.elim hq'
    | ret u =>
      obtain ⟨v, H2, os2, bare2, un2, hok2, rv, ev, ea, q2⟩ := hq'
      subst ev
      obtain ⟨h2, g2, d2, t2, os'⟩ := s'
      obtain ⟨t0, G, J, kG, ge, at2⟩ := bare_end (db := d2) (tb := t2) I le1 kp un2 hok2 os2 bare2 ea
      exact ⟨rv, _, _, _, ⟨G, g2, d2, t2, os'⟩, _, .ref C, none, rfl, J, kG, ge, at2, ⟨rfl, rfl⟩, rfl, rfl, del_same, rfl, bare2, raises_own T.exC T.tyC, q2⟩
section
variable {B : Bx} {ρ : List En} {x : Str} {pos pos' p : Pos} {rest : List Stmt} {D0 : Ed}
/-- raise C() -/
theorem s_raise0 {C : Addr} {n : Nat} {YR : Addr → List (Str × D) → Prop} (F : KnE B.X.prog B.X.w B.X.K B.X.mg B.X.base x n C []) {rm : Nat} (hr : Room rm B.X.A) (rz : Rz B ρ YR) (hc : B.X.calm = true) (h : YR C []) (hg : Gl B.X x := by rfl)
    (hdb : (x == ("__debug__" : Str)) = false := by decide) (hrm : n + 1 ≤ rm := by decide) : Tss B ρ (.Raise (some (.Call (.Name x p) [] [] pos)) none pos' :: rest) D0 := by
  obtain ⟨f, fd, ps, hm, T, hI, hT, hb, FI⟩ := F.ex
  obtain ⟨W, tk, hW⟩ := rz
  refine Tss.of fun kp σ H G s g => ⟨_, ps_raise hc tk (pmk_bare T hI hT FI (hr.mono hrm) hb passX0 hg hm hdb), fun q nq => ?_⟩
  refine ⟨q, [], rfl, rfl, T, upd_same, fun _ => ⟨rfl, upd_same, ?_⟩, fun z => absurd rfl z⟩
  have e : del (upd H q (exo q C none)) q = H := by
    funext b
    by_cases hb' : b = q
    · rw [hb', del_same, nq]
    · rw [del_ne hb', upd_ne hb']
  rw [e]
  exact hW C [] none σ H G s rfl h
end
end Fz
/-! own lists compared -/
namespace Fz
open PySem PySem.Spec PyProof.Rows L2
section
variable {B : Bx} {ρ : List En} {b : Expr} {x : Str} {pos p : Pos}
theorem tt_eqO (j : Nat) {q0 : Option Addr} {ds : List D} {k : Bool → Prop} (hu : B.X.A.units + 64 < cLine) (hr : ρ[j]? = some (.ow q0 (.lst ds))) (h : Tk B ρ b fun y => dOk 8 (.lst ds) = true ∧ dOk 8 y = true ∧ k (deq (.lst ds) y))
    (hN : B.X.N[j]? = some x := by rfl) (hv : Vis B.X.env.scope x := by first | exact Or.inl rfl | exact Or.inr (Or.inl rfl) | exact Or.inr (Or.inr rfl)) (hd : (x == ("__debug__" : Str)) = false := by decide) (hcd : (x == ("__classdict__" : Str)) = false := by decide)
    (hm : behindInMarks .Eq b = false := by first | exact nomark _ | rfl | with_unfolding_all rfl) : Tt B ρ (.Compare (.Name x p) [.Eq] [b] pos) k := Tt.of fun σ H G s => by
  obtain ⟨q, o, e1, e2, gp, h0, hw, t, _⟩ := s.ow j _ _ hr
  cases t with
  | @lst xs _ ra =>
    refine ⟨_, pt_cmpR (op_eqD hu) (pe_var hN hv hd hcd) pe_W hm, .ref q, e1, h.te s fun v d G1 H1 g1 i1 r1 h1 => ?_⟩
    have s1 := s.step g1 i1
    have hall : ds.all (dOk 7) = true := h1.1
    refine ⟨.list (pyL ds), py d, .lst (SqL.of (g1.h _ _ hw e2)) (rep_dpAll s1.gr.s (rep_dp s1.gr.s 7) hall (ra.mono g1.g)), rep_dp s1.gr.s 8 h1.2.1 r1, ?_, dOk_shaped (by decide) h1.2.1, _, rfl, G1, g1, i1, ?_⟩
    · have := dOk_shaped (n := 8) (by decide) h1.1
      rwa [py] at this
    · have e := h1.2.2
      unfold deq at e
      rwa [py] at e
end
end Fz
/-! enumerate over a tuple; for i, x in enumerate(..) over data -/
namespace Fz
open PySem PySem.Spec PyProof.Rows L2
section
variable {prog : Program} {w : World} {A : Around} {E : Value → Shared → Prop} {s : Shared}
theorem nextTup_item {it t : Addr} {i : Nat} {zs : Array Value} {x : Value} {Q : Value → Shared → Prop} (ti : s.heap.IsTupleIter it t i) (tt : s.heap.IsTuple t zs) (hx : zs[i]? = some x)
    (hQ : ∀ g, g.IsTupleIter it t (i + 1) → Heap.SameBut it s.heap g → Q x { s with heap := g }) : wpAny (model prog w) A (Builtin.SmallTypes.nextOf (.ref it)) Q E s := by
  obtain ⟨o, ko, kc, kd⟩ := id ti
  obtain ⟨ot, kt, _, m, kdt⟩ := tt
  unfold Builtin.SmallTypes.nextOf
  refine wpAny_bind (wpAny_callSpecial?_slot (name := Str.ofString "__next__") ti.typeIs F.slot_tuple_iterator_next (wpAny_call_entry F.slot_tuple_iterator_next ti.typeIs F.entry_tuple_iterator_next ?_ (F.args_tuple_iterator_next_1 _)))
  show wpAny _ _ (field (.ref it) 0 >>= fun _ => _) _ _ s
  refine wpAny_bind (wpAny_field ko kd (x := .ref t) rfl ?_)
  show wpAny _ _ (if (Value.ref t == Value.none) = true then _ else (field (.ref it) 1 >>= fun _ => _)) _ _ s
  rw [if_neg (show (Value.ref t == Value.none) ≠ true from Bool.false_ne_true)]
  refine wpAny_bind (wpAny_field ko kd (x := .int i 0) rfl ?_)
  show wpAny _ _ (seqItems? (.ref t) >>= fun _ => _) _ _ s
  refine wpAny_bind (wpAny_seqItems kt kdt ?_); simp only [Int.toNat_natCast, hx]
  refine wpAny_bind (wpAny_setField ko kd (by simp) (wpAny_pure ⟨x, rfl, wpAny_pure (hQ _ ⟨_, Heap.get?_update_self _ ko (Obj.isFreed_of_fields (Obj.data_mapFields kd _)), (Obj.cls_mapFields ..).trans kc, ?_⟩ (Heap.SameBut.update ..))⟩))
  rw [Obj.data_mapFields kd]; simp [rawInt]
theorem nextTup_end {it t : Addr} {i : Nat} {zs : Array Value} {Q : Value → Shared → Prop} (hh : A.handled = none) (ti : s.heap.IsTupleIter it t i) (tt : s.heap.IsTuple t zs) (hx : zs[i]? = none)
    (hE : ∀ g e, Heap.ExtBut it s.heap g → (∃ o, g.get? e = some o ∧ o.cls = .type "StopIteration") → E (.ref e) { s with heap := g }) : wpAny (model prog w) A (Builtin.SmallTypes.nextOf (.ref it)) Q E s := by
  obtain ⟨o, ko, kc, kd⟩ := id ti
  obtain ⟨ot, kt, _, m, kdt⟩ := tt
  unfold Builtin.SmallTypes.nextOf
  refine wpAny_bind (wpAny_callSpecial?_slot (name := Str.ofString "__next__") ti.typeIs F.slot_tuple_iterator_next (wpAny_call_entry F.slot_tuple_iterator_next ti.typeIs F.entry_tuple_iterator_next ?_ (F.args_tuple_iterator_next_1 _)))
  show wpAny _ _ (field (.ref it) 0 >>= fun _ => _) _ _ s
  refine wpAny_bind (wpAny_field ko kd (x := .ref t) rfl ?_)
  show wpAny _ _ (if (Value.ref t == Value.none) = true then _ else (field (.ref it) 1 >>= fun _ => _)) _ _ s
  rw [if_neg (show (Value.ref t == Value.none) ≠ true from Bool.false_ne_true)]
  refine wpAny_bind (wpAny_field ko kd (x := .int i 0) rfl ?_)
  show wpAny _ _ (seqItems? (.ref t) >>= fun _ => _) _ _ s
  refine wpAny_bind (wpAny_seqItems kt kdt ?_); simp only [Int.toNat_natCast, hx]
  refine wpAny_bind (wpAny_rule (wpAny_bind (wpAny_setField ko kd (by simp) ?_)))
  show wpAny _ _ (newExc (.type "StopIteration") [] >>= fun _ => _) _ _ _
  refine wpAny_bind ?_; simp only [newExc, newTuple]
  refine wpAny_bind (wpAny_newObj_type ?_ (by size_fits)); refine wpAny_bind (m := firstArgMember _ _) (wpAny_of_eq (a := Value.none) (by first | rfl | (simp only [firstArgMember]; rfl)) ?_)
  refine wpAny_newObj_type ?_ (by size_fits); simp only [raiseNew]
  refine wpAny_bind (wpAny_handled ?_); first | rw [show A.in1.handled = none from hh] | rw [hh]
  refine wpAny_bind (wpAny_pure (wpAny_throw (hE _ _ (((Heap.SameBut.update ..).extBut.push _).push _) ⟨_, Heap.get?_push_size _ rfl, rfl⟩)))
end
theorem drawsTup {prog : Program} {w : World} {A : Around} (hh : A.handled = none) (it t : Addr) (ne : t ≠ it) (zs : Array Value) :
    Draws prog w A it [it, t] zs.size (fun i v => zs[i]? = some v) (fun i h => h.IsTupleIter it t i ∧ h.IsTuple t zs) where
  live := fun _ _ st => let ⟨o, e, _⟩ := st.1; ⟨o, e⟩
  frame := fun _ _ _ st k => ⟨let ⟨o, e, r⟩ := st.1; ⟨o, k it (by simp) o e, r⟩, let ⟨o, e, r⟩ := st.2; ⟨o, k t (by simp) o e, r⟩⟩
  item := fun i s Q E hi st hQ => nextTup_item st.1 st.2 (x := zs[i]) (by simp [hi]) fun g gi sb => hQ _ g s.toks (by simp [hi]) ⟨gi, st.2.extBut sb.extBut ne⟩ sb
  done := fun s Q E st hE => nextTup_end hh st.1 st.2 (by simp) hE
theorem meets_enumTup (t : Addr) (zs : Array Value) (n : Nat) (dct : Option Addr) (sl : Array (Option Value)) :
    Meets (Builtin.«enumerate.__new__» ⟨[.type "enumerate", .ref t], []⟩) (fun _ R s => s.heap.get? t = some { cls := .type "tuple", dict := dct, data := .seq zs n, slots := sl } ∧
      R (.ok (.ret (.ref (s.heap.push { cls := .type "tuple_iterator", data := .fields #[.ref t, .int 0 0] }).objs.size)))
        { s with heap := (s.heap.push { cls := .type "tuple_iterator", data := .fields #[.ref t, .int 0 0] }).push { cls := .type "enumerate", data := .fields #[.none, .bool false, .ref s.heap.objs.size, rawInt 0, .none, .none] } }) :=
  .of_wp fun prog w A R s h => by
    obtain ⟨hp, g, d, tk, os⟩ := s; obtain ⟨ht, h⟩ := h
    have hsub := sub_enumerate; have hT : Heap.IsTuple (Shared.heap ⟨hp, g, d, tk, os⟩) t zs := ⟨_, ht, rfl, n, rfl⟩
    wp_walk using AutoSeq1.wpAny_loadPart' ht
    refine wpAny_stack_any fun st => wpAny_pure ?_
    split
    · rename_i c _ _ _ _ _
      cases (c == Value.type "enumerate")
      · wp_walk using AutoSeq1.wpAny_loadPart' ht, wpAny_pyIter_tuple hT
        exact ⟨_, rfl, h⟩
      · wp_walk using AutoSeq1.wpAny_loadPart' ht, wpAny_pyIter_tuple hT
        exact ⟨_, rfl, h⟩
    · wp_walk using AutoSeq1.wpAny_loadPart' ht, wpAny_pyIter_tuple hT
      exact ⟨_, rfl, h⟩
theorem call_enumTup {prog : Program} {w : World} {A : Around} {E : Value → Shared → Prop} {s : Shared} {t : Addr} {zs : Array Value} {Q : Value → Shared → Prop} (hT : s.heap.IsTuple t zs)
    (h : ∀ g, IsEnum g (s.heap.objs.size + 1) s.heap.objs.size 0 .none → g.IsTupleIter s.heap.objs.size t 0 → g.objs.size = s.heap.objs.size + 2 → (∀ b o, s.heap.get? b = some o → g.get? b = some o) → Q (.ref (s.heap.objs.size + 1)) { s with heap := g }) :
    wpAny (model prog w) A (call (.type "enumerate") [.ref t]) Q E s := by
  obtain ⟨⟨c, dct, dt, sl⟩, ht, hc, n, hd⟩ := hT
  obtain rfl : c = .type "tuple" := hc
  obtain rfl : dt = .seq zs n := hd
  refine callType_new F.called_enumerate (by decide) (F.typeCall_enumerate_1 _) (F.newCall_enumerate_1 _) (fun obj => F.args_object_init_2 obj _) F.entry_enumerate_new (meets_enumTup t zs n dct sl) ⟨ht, ?_⟩
  have sz : (s.heap.push { cls := .type "tuple_iterator", data := .fields #[.ref t, .int 0 0] }).objs.size = s.heap.objs.size + 1 := Heap.size_push ..
  show _ ∧ _
  rw [sz]
  have he : IsEnum ((s.heap.push { cls := .type "tuple_iterator", data := .fields #[.ref t, .int 0 0] }).push { cls := .type "enumerate", data := .fields #[.none, .bool false, .ref s.heap.objs.size, rawInt 0, .none, .none] }) (s.heap.objs.size + 1) s.heap.objs.size 0 .none := by
    have := Heap.get?_push_size (s.heap.push { cls := .type "tuple_iterator", data := .fields #[.ref t, .int 0 0] }) (o := { cls := .type "enumerate", data := .fields #[.none, .bool false, .ref s.heap.objs.size, rawInt 0, .none, .none] }) rfl
    rw [sz] at this; exact this
  exact ⟨⟨_, he, rfl⟩, h _ he ⟨_, Heap.get?_push_of_some _ (Heap.get?_push_size _ rfl), rfl, rfl⟩ (by rw [Heap.size_push, sz]) fun b o e => Heap.get?_push_of_some _ (Heap.get?_push_of_some _ e)⟩
/-- the tuple at a as it stands at each turn, each item in a new pair -/
def IteT (K : PySem.W.Frag) (a : Addr) : It :=
  ⟨fun i H => ∃ (xs : List V) (x : V), SqT K H a xs ∧ xs[i]? = some x, fun i H v H' => ∃ T x, v = .ref T ∧ H T = none ∧ H' = upd H T (.tup [.int (i : Nat), x]) ∧ ∀ xs, SqT K H a xs → xs[i]? = some x, fun i H => ∃ xs : List V, SqT K H a xs ∧ xs.length ≤ i⟩
theorem turn_enumTup {P : Program} {w : World} {K : PySem.W.Frag} {elts : List Expr} {kk : Nat} {tpos : Pos} (a e it : Addr) :
    Turn P w K (.Tuple elts kk tpos) (IteT K a) [e, it] e (fun i h => (∃ old, IsEnum h e it ((i : Nat) : Int) old) ∧ h.IsTupleIter it a i ∧ e ≠ it) where
  mem := by simp
  obj := fun i h st b hb => by
    obtain ⟨⟨old, e1⟩, ⟨o, e2, c2, d2⟩, _⟩ := st
    have e' : b = e ∨ b = it := by simpa using hb
    rcases e' with z | z
    · rw [z]; exact ⟨_, e1, fun v q => nomatch q⟩
    · rw [z]; exact ⟨o, e2, fun v q => by rw [d2] at q; cases q⟩
  keep := fun i h h' st k => let ⟨⟨old, e1⟩, ⟨o, e2, r2⟩, ne⟩ := st; ⟨⟨old, k e (by simp) _ e1⟩, ⟨o, k it (by simp) o e2, r2⟩, ne⟩
  item := by
    intro X hP hw hK hc i pins s σ H E I hf st hg
    subst hP hw hK
    obtain ⟨⟨old, e1⟩, ti, ne⟩ := st
    obtain ⟨xs, x, hq, hx⟩ := hg
    obtain ⟨its, rv, p, hz⟩ := I.tuple hq
    obtain ⟨u, hu, ru⟩ := rv.get hx
    have le : e < s.heap.objs.size := Heap.lt_size e1
    have li : it < s.heap.objs.size := by obtain ⟨_, q, _⟩ := ti; exact Heap.lt_size q
    have hT : s.heap.IsTuple a its.toArray := p
    have ai : a ≠ it := fun z => by
      obtain ⟨o1, g1, c1, _⟩ := hT
      obtain ⟨o2, g2, c2, _⟩ := ti
      rw [z, g2] at g1
      cases g1
      rw [c2] at c1
      injection c1 with z2
      exact absurd z2 (by decide)
    have ae : e ≠ a := fun z => by
      obtain ⟨o1, g1, c1, _⟩ := hT
      rw [← z, e1] at g1
      cases g1
      injection c1 with z2
      exact absurd z2 (by decide)
    have hlt : i < its.toArray.size := by
      have := (List.getElem?_eq_some_iff.mp hu).1
      simpa using this
    refine wpAny_pyNext_enum_itemD (drawsTup (prog := X.prog) (w := X.w) (A := X.A.in1) (I.ok.hd hc) it a ai its.toArray) e1 ⟨ti, hT⟩ hlt ne (by simpa using ⟨ne, ae⟩) fun x' g tk hPx ho hst' hTt hsz hk => ?_
    have hxx : x' = u := by
      have h1 : its.toArray[i]? = some u := by simpa using hu
      rw [h1] at hPx
      exact (Option.some.inj hPx).symm
    subst hxx
    refine ⟨_, rfl, wpAny_letOwnedTupleGo_enum (s := { s with heap := g, toks := tk + 1 }) ho fun g2 he2 sb => ?_⟩
    have hT2 : g2.get? s.heap.objs.size = some { cls := .type "tuple", data := .seq #[.int i tk, x'] } := (sb.2 _ (Nat.ne_of_gt le)).trans hTt
    have new : ObjOk X.prog X.w (upd H s.heap.objs.size (.tup [.int (i : Nat), x])) g2 s.heap.objs.size (.tup [.int (i : Nat), x]) := ⟨(by show 2 ≤ sizeLine; decide), [.int i tk, x'], .cons ⟨_, rfl⟩ (.cons ru .nil), ⟨_, hT2, rfl, _, rfl⟩⟩
    have I1 : Inv X pins σ (upd H s.heap.objs.size (.tup [.int (i : Nat), x])) { s with heap := g2, toks := tk + 1 } :=
      I.turnedNew (ch := [e, it]) (fun b ob hb q => (sb.2 b (fun z => hb (by simp [z]))).trans (hk b ob (fun z => hb (by simp [z])) (fun z => hb (by simp [z])) q)) hf (Nat.le_refl _) new
    refine ⟨.ref s.heap.objs.size, _, I1, rfl, ⟨_, x, rfl, I.hok.fresh (Nat.le_refl _), rfl, fun ys hy => by rw [I.tuple_inj hy hq]; exact hx⟩, ⟨⟨x', ?_⟩, ?_, ne⟩, fun b hb => ?_⟩
    · rw [show ((i + 1 : Nat) : Int) = (i : Int) + 1 by omega]; exact he2
    · obtain ⟨o, q1, q2⟩ := hst'.1
      exact ⟨o, (sb.2 it (Ne.symm ne)).trans q1, q2⟩
    · have hb' : b < s.heap.objs.size := by
        have e' : b = e ∨ b = it := by simpa using hb
        rcases e' with z | z
        · rw [z]; exact le
        · rw [z]; exact li
      rw [upd_ne (Nat.ne_of_lt hb')]; exact (hf b hb).1
  done := by
    intro X hP hw hK hc i pins s σ H E I hf st hg
    subst hP hw hK
    obtain ⟨⟨old, e1⟩, ti, ne⟩ := st
    obtain ⟨xs, hq, hx⟩ := hg
    obtain ⟨its, rv, p, hz⟩ := I.tuple hq
    obtain ⟨f0, f1, f2, f3, f4, f5⟩ := hf it (by simp)
    have hT : s.heap.IsTuple a its.toArray := p
    have hl := rv.length
    have hT2 := hT
    unfold pyNext
    refine wpAny_bind (wpAny_attempt (wpAny_callSpecial?_slot (name := Str.ofString "__next__") ⟨_, e1, rfl⟩ F.slot_enumerate_next (wpAny_call_entry F.slot_enumerate_next ⟨_, e1, rfl⟩ F.entry_enumerate_next ?_ (F.args_enumerate_next_1 _))))
    show wpAny _ _ (field (.ref e) 2 >>= fun _ => _) _ _ _
    refine wpAny_bind (wpAny_field e1 rfl (x := .ref it) rfl (wpAny_bind (nextTup_end (I.ok.hd hc) ti hT (by simp; omega) fun g x ge gx => ?_)))
    obtain ⟨o, go, gc⟩ := gx
    exact wpAny_bind (wpAny_isInstance (T := "StopIteration") (b := true) ⟨o, go, gc⟩ isSubtype_stop (wpAny_pure ⟨rfl, I.turned (t' := s.toks) (fun b o hb q => ge b o hb q) f0 f1 f3 f4 f5⟩))
  self := fun A i s Q E st h => let ⟨⟨_, he⟩, _⟩ := st; wpAny_pyIter_enum he h
def iEnumT (K : PySem.W.Frag) (ta : TA) : TI := fun σ H R => ta σ H fun vs H1 => ∃ a xs, vs = [.ref a] ∧ ((SqL K H1 a xs ∧ R (Ite K a) H1) ∨ (SqT K H1 a xs ∧ R (IteT K a) H1))
/-- enumerate(e), a list or a tuple -/
theorem pi_enumLT {X : Cx} {e : Expr} {ta : TA} {p pos tpos : Pos} {elts : List Expr} {kk : Nat} (hg : Gl X "enumerate") (hm : X.mg "enumerate" = none) (ha : PA X [e] ta) (hs : starEach [e] X.env = [(false, eval e X.env)] := by rfl) :
    PI X (.Tuple elts kk tpos) (.Call (.Name "enumerate" p) [e] [] pos) (iEnumT X.K ta) := by
  refine ⟨fun pins s σ H R I h => ?_⟩
  refine Call_ (ld_blt I hg hm boot_enumerate (PyProof.Rows.callWith_type1 (thn (ha.run pos pins s σ H _ I h) fun us s1 ⟨vs, H1, I1, r1, a, xs, ev, q⟩ => ?_) hs rfl))
  subst ev
  cases r1 with
  | cons r rr =>
    cases rr
    cases r
    have fp : ∀ b ∈ [s1.heap.objs.size + 1, s1.heap.objs.size], FpOk X pins H1 b := fun b hb => by
      have e' : b = s1.heap.objs.size + 1 ∨ b = s1.heap.objs.size := by simpa using hb
      have lb : s1.heap.objs.size ≤ b := by rcases e' with z | z <;> omega
      exact I1.fpOk lb (I1.hok.fresh lb)
    rcases q with ⟨hq, q⟩ | ⟨hq, q⟩
    · obtain ⟨its, rv, p', hz⟩ := I1.list hq
      exact call_enumerate_list p'.isList fun g ge gi gs gk => wpAny_pyIter_enum ge ⟨s1.heap.objs.size + 1, [s1.heap.objs.size + 1, s1.heap.objs.size], _, _, H1, rfl, I1.kept (t' := s1.toks) gk, turn_enum a (s1.heap.objs.size + 1) s1.heap.objs.size, ⟨⟨.none, ge⟩, gi, Nat.succ_ne_self _⟩, fp, q⟩
    · obtain ⟨its, rv, p', hz⟩ := I1.tuple hq
      exact call_enumTup (show s1.heap.IsTuple a its.toArray from p') fun g ge gi gs gk => wpAny_pyIter_enum ge ⟨s1.heap.objs.size + 1, [s1.heap.objs.size + 1, s1.heap.objs.size], _, _, H1, rfl, I1.kept (t' := s1.toks) gk, turn_enumTup a (s1.heap.objs.size + 1) s1.heap.objs.size, ⟨⟨.none, ge⟩, gi, Nat.succ_ne_self _⟩, fp, q⟩
end Fz
namespace Fz
open PySem PySem.Spec PyProof.Rows L2
section
variable {B : Bx} {ρ : List En} {e : Expr} {k : D → Prop} {pos p tpos : Pos} {elts : List Expr} {kk : Nat} {put : List En → D → List En → Prop} {is : List Nat} {g : TG}
def LoopE (B : Bx) (ρ : List En) (put : List En → D → List En → Prop) (body rest : List Stmt) (D0 : Ed) (ds : List D) : Prop := ∃ J : Nat → List En → Prop, J 0 ρ ∧
  (∀ (j : Nat) d ρ', ds[j]? = some d → J j ρ' → ∃ ρ'', put ρ' (.tup [.int (j : Int), d]) ρ'' ∧ Tss B ρ'' body (D0.turn B J (j + 1))) ∧ ∀ ρ', J ds.length ρ' → Tss B ρ' rest D0
theorem forE_run {body rest : List Stmt} {D0 : Ed} {It0 : It} {xs : List V} {ds : List D} {S : Hp → List V → Prop} {kp G1 H1 : Hp} {σ : L2.St} (td : TgD B.X.K g put is) (s1 : StOk B ρ σ H1 G1) (gk : Same kp G1) (ra : RepAll B.X.K B.S G1 xs ds) (h : LoopE B ρ put body rest D0 ds)
    (hgo : ∀ i H x, S H xs → xs[i]? = some x → It0.go i H) (hyl : ∀ i H v H', S H xs → It0.yld i H v H' → ∃ T x, v = .ref T ∧ H T = none ∧ H' = upd H T (.tup [.int (i : Nat), x]) ∧ xs[i]? = some x)
    (hst : ∀ i H, S H xs → xs.length ≤ i → It0.stop i H) (stay : ∀ G H, Same G1 G → Same G H → S H xs) :
    ∃ W : Nat → Nat → L2.St → Hp → Prop, (∃ m, W 0 m σ H1) ∧ ∀ i m σ H, W i m σ H → (It0.stop i H ∧ tWS B.X rest (D0.e B kp) σ H) ∨
      (It0.go i H ∧ ∃ N : L2.St → Hp → Prop, (∀ σ' H', N σ' H' → ∃ m', m' < m ∧ W (i + 1) m' σ' H') ∧ ∀ x H', It0.yld i H x H' → g x σ H' fun σ2 H2 => tWS B.X body { nx := N, rt := D0.r B, ct := N, bk := tWS B.X rest (D0.e B kp) } σ2 H2) := by
  obtain ⟨J, j0, jb, jd⟩ := h
  refine ⟨fun i m σ H => m = xs.length - i ∧ i ≤ xs.length ∧ ∃ ρ' G, J i ρ' ∧ StOk B ρ' σ H G ∧ Same G1 G, ⟨xs.length, rfl, Nat.zero_le _, ρ, G1, j0, s1, .refl _⟩, fun i m σ H hw => ?_⟩
  obtain ⟨rfl, hi, ρ', G, hJ, s', g'⟩ := hw
  have hS := stay G H g' s'.gr.s
  by_cases hlt : i < xs.length
  · obtain ⟨x, hx⟩ : ∃ x, xs[i]? = some x := ⟨xs[i], List.getElem?_eq_getElem hlt⟩
    refine .inr ⟨hgo i H x hS hx, fun σ' H' => ∃ ρ'' G'', J (i + 1) ρ'' ∧ StOk B ρ'' σ' H' G'' ∧ Same G1 G'', fun σ' H' ⟨ρ'', G'', a1, a2, a3⟩ => ⟨xs.length - (i + 1), by omega, rfl, by omega, ρ'', G'', a1, a2, a3⟩, fun v H' hy => ?_⟩
    obtain ⟨T, x', rfl, hT, rfl, hx'⟩ := hyl i H v H' hS hy
    obtain ⟨d, hd, rd⟩ := ra.getV hx'
    obtain ⟨ρ'', hp, hb⟩ := jb i d ρ' hd hJ
    obtain ⟨g2, i2⟩ := (Gr.new (o := .tup [.int (i : Nat), x']) s'.gr.s hT).up s'.inv
    have s2 := s'.step g2 i2
    have g3 := g'.trans g2.g
    refine td.run rfl hp s2 (.tup (xs := [.int (i : Nat), x']) (SqT.of upd_same) (.cons (.int _) (.cons (rd.mono g3) .nil))) fun σ' s'' _ => ?_
    exact tWS_mono (hb G1 σ' _ _ s'' g3) (fun _ _ q => q) (fun _ _ q => q) (fun _ _ q => q.elim) (fun _ _ q => q.elim)
  · have e : i = xs.length := by omega
    subst e
    rw [ra.length] at hJ
    exact .inl ⟨hst _ H hS (Nat.le_refl _), jd ρ' hJ kp σ H G s' (gk.trans g')⟩
/-- for i, x in enumerate(e) -/
theorem s_forE {body rest : List Stmt} {D0 : Ed} (g : TG) (put : List En → D → List En → Prop) (is : List Nat) {pr pc : Pos} (td : TgD B.X.K g put is) (hg : PG B.X (.Tuple elts kk tpos) g) (hm : B.X.mg "enumerate" = none) (h : Tk B ρ e (kItems (LoopE B ρ put body rest D0)))
    (po : PassesOwn (model B.X.prog B.X.w) B.X.A B.X.env B.X.xe) (hc : B.X.calm = true) (hgE : Gl B.X "enumerate" := by rfl) (he : starEach (e :: []) B.X.env = (false, eval e B.X.env) :: starEach [] B.X.env := by rfl) (hse : starEach [e] B.X.env = [(false, eval e B.X.env)] := by rfl)
    (hfs : ∀ v, foldedSetIterable (.Call (.Name "enumerate" pr) [e] [] pc) B.X.env v = pure v := by intro _; rfl) : Tss B ρ (.For (.Tuple elts kk tpos) (.Call (.Name "enumerate" pr) [e] [] pc) body [] pos :: rest) D0 := Tss.of fun kp σ H G s gk =>
  ⟨_, ps_for po hc (pi_enumLT hgE hm pa_W hse) hg pss_W hfs, (ta_one h he).ta s fun vs ds G1 H1 g1 i1 r1 h1 => by
    obtain ⟨v, d, rfl, rv, hd⟩ := ko1 r1 h1
    obtain ⟨a, xs, es, rfl, ha, ra, hf⟩ := kItems_of rv hd
    have s1 := s.step g1 i1
    refine ⟨a, xs, rfl, ?_⟩
    rcases ha with ha | ha
    · refine .inl ⟨Same.seq s1.gr.s ha, forE_run (S := fun H ys => SqL B.X.K H a ys ∧ ys = xs) td s1 (gk.trans g1.g) ra hf (fun i H x hS hx => ⟨xs, x, hS.1, hx⟩) (fun i H v H' hS hy => ?_) (fun i H hS hl => ⟨xs, hS.1, hl⟩) fun G H g1' g2' => ⟨Same.seq (g1'.trans g2') ha, rfl⟩⟩
      obtain ⟨T, x, h1, h2, h3, h4⟩ := hy
      exact ⟨T, x, h1, h2, h3, h4 xs hS.1⟩
    · refine .inr ⟨same_seqT s1.gr.s ha, forE_run (S := fun H ys => SqT B.X.K H a ys ∧ ys = xs) td s1 (gk.trans g1.g) ra hf (fun i H x hS hx => ⟨xs, x, hS.1, hx⟩) (fun i H v H' hS hy => ?_) (fun i H hS hl => ⟨xs, hS.1, hl⟩) fun G H g1' g2' => ⟨same_seqT (g1'.trans g2') ha, rfl⟩⟩
      obtain ⟨T, x, h1, h2, h3, h4⟩ := hy
      exact ⟨T, x, h1, h2, h3, h4 xs hS.1⟩⟩
end
end Fz
/-! comprehensions whose items are not told before (draws); a pair stored, the second a new own list -/
namespace Fz
open PySem PySem.Spec PyProof.Rows L2
theorem All2.snoc {α β : Type} {R : α → β → Prop} {a : α} {b : β} : ∀ {as : List α} {bs : List β}, All2 R as bs → R a b → All2 R (as ++ [a]) (bs ++ [b])
  | _, _, .nil, h => .cons h .nil
  | _, _, .cons r t, h => .cons r (t.snoc h)
section
variable {B : Bx} {ρ : List En} {a b e elt tg iter : Expr} {k : D → Prop} {pos p : Pos} {x : Str} {scope : Scope} {own : List (Str × Nat)} {put : List En → D → List En → Prop} {is : List Nat} {g : TG}
theorem tifs_yes {X : Cx} {σ : L2.St} {H : Hp} {p : Hp → Prop} {q : Hp → Prop} (h : p H) : tIfs X scope [] σ H fun b H3 => if b = true then p H3 else q H3 := by
  show (if true = true then p H else q H)
  rw [if_pos rfl]
  exact h
/-- a turn: the item d gives a datum of R d -/
def TurnR (B : Bx) (scope : Scope) (ρ : List En) (put : List En → D → List En → Prop) (elt : Expr) (R : D → D → Prop) (d : D) : Prop := ∃ ρ', put ρ d ρ' ∧ TkB B scope ρ' elt (R d)
theorem lcR_inv {R : D → D → Prop} {σ : L2.St} {G1 H1 : Hp} {p : Addr} {ds : List D} {xs : List V} (s : StOk B ρ σ H1 G1) (ra : RepAll B.X.K B.S G1 xs ds) (hp : H1 p = none) (hsz : ds.length < sizeLine) (h : ∀ d ∈ ds, TurnR B scope (wipeR ρ (own.map (·.2))) put elt R d) (hk : ∀ es, All2 R ds es → k (.lst es))
    (td : TgD B.X.K g put is) (hi : ∀ i ∈ is, i ∈ own.map (·.2)) :
    ∃ Pv : Nat → Hp → Prop, Pv 0 (upd H1 p (.lst [])) ∧ (∀ i H, Pv i H → Same G1 H) ∧
      (∀ i v H, xs[i]? = some v → Pv i H → g v (wipe σ (own.map (·.2))) H fun σ2 H2 => wipe σ2 (own.map (·.2)) = wipe σ (own.map (·.2)) ∧ tIfs B.X scope [] σ2 H2 fun b H3 => if b = true then tWB B.X scope elt σ2 H3 fun y H4 => ∃ acc, H4 p = some (.lst acc) ∧ acc.length < sizeLine ∧ Pv (i + 1) (upd H4 p (.lst (acc ++ [y]))) else Pv (i + 1) H3) ∧
      ∀ H, Pv xs.length H → Kd B G1 H1 k (.ref p) H := by
  have gp : G1 p = none := s.gr.s.free hp
  have wp : ¬ B.M.W p := fun w => by
    obtain ⟨_, o', e⟩ := B.M.nn s.inv w
    rw [hp] at e; cases e
  refine ⟨fun i H => ∃ G acc es, Gr B.M.W G1 H1 G H ∧ B.M.I G H ∧ StOk B ρ σ H G ∧ H p = some (.lst acc) ∧ G p = none ∧ RepAll B.X.K B.S G acc es ∧ All2 R (ds.take i) es ∧ i ≤ ds.length, ?_, fun i H ⟨G, acc, es, gr, _⟩ => gr.g.trans gr.s, fun i v H hv ⟨G, acc, es, gr, iv, so, hpa, gpa, rca, hac, hil⟩ => ?_, fun H ⟨G, acc, es, gr, iv, so, hpa, gpa, rca, hac, hil⟩ => ?_⟩
  · have hs : Same H1 (upd H1 p (.lst [])) := same_new hp
    have g1 : Gr B.M.W G1 H1 G1 (upd H1 p (.lst [])) := ⟨.refl _, s.gr.s.trans hs, fun b o _ q => hs b o q, fun _ _ _ n => n⟩
    have i1 : B.M.I G1 (upd H1 p (.lst [])) := B.M.st s.inv (.refl _) (s.gr.s.trans hs) (fun b w => (B.M.nn s.inv w).1) fun b o _ q => hs b o q
    exact ⟨G1, [], [], g1, i1, s.step g1 i1, upd_same, gp, .nil, .nil, Nat.zero_le _⟩
  · obtain ⟨d, hd, rd⟩ := ra.getV hv
    have hlt : i < ds.length := (List.getElem?_eq_some_iff.mp hd).1
    have htake : ds.take (i + 1) = ds.take i ++ [d] := by
      rw [List.take_add_one, hd]; rfl
    obtain ⟨ρ', hput, ht⟩ := h d (List.mem_of_getElem? hd)
    refine td.run rfl hput (so.wipe (own.map (·.2))) (rd.mono gr.g) fun σ' s' hw => ⟨by rw [hw _ hi, wipe_twice], ?_⟩
    refine tifs_yes ?_
    intro sh Hb C cl fp
    refine (ht sh Hb C cl fp).te s'.blk fun y z G' H' g' i' ry hR => ?_
    have gg : Gr B.M.W G1 H1 G' H' := gr.trans iv g'
    have hl2 : acc.length = i := by
      have := hac.length
      rw [List.length_take, Nat.min_eq_left hil] at this
      rw [rca.length, ← this]
    have hs : Same G' (upd H' p (.lst (acc ++ [y]))) := fun b o q => by
      rw [upd_ne (ne_of_none q (g'.d _ _ hpa gpa))]
      exact g'.s b o q
    have g2 : Gr B.M.W G1 H1 G' (upd H' p (.lst (acc ++ [y]))) := ⟨gg.g, hs, fun b o w q => by
      rw [upd_ne (ne_of_none q hp)]
      exact gg.h b o w q, gg.d⟩
    have i2 : B.M.I G' (upd H' p (.lst (acc ++ [y]))) := B.M.st i' (.refl _) hs (fun b w => (B.M.nn i' w).1) fun b o w q => by
      rw [upd_ne (show b ≠ p from fun z => wp (by rw [← z]; exact w))]
      exact q
    exact ⟨acc, g'.h _ _ wp hpa, by omega, G', acc ++ [y], es ++ [z], g2, i2, s.step g2 i2, upd_same, g'.d _ _ hpa gpa, (rca.mono g'.g).append (.one ry), by rw [htake]; exact hac.snoc hR, hlt⟩
  · have hds : xs.length = ds.length := ra.length
    rw [hds, List.take_length] at hac
    have hg : Same G (upd G p (.lst acc)) := same_new gpa
    have hs : Same (upd G p (.lst acc)) H := fun b o q => by
      by_cases hb : b = p
      · subst hb
        rw [upd_same] at q
        cases q
        exact hpa
      · rw [upd_ne hb] at q
        exact gr.s b o q
    refine ⟨_, upd G p (.lst acc), ⟨gr.g.trans hg, hs, gr.h, fun b o q n => ?_⟩, B.M.st iv hg hs (fun b w => ?_) (fun b o _ q => q), .obj upd_same (.lst (rca.mono hg)), hk es hac⟩
    · rw [upd_ne (ne_of_none q hp)]
      exact gr.d b o q n
    · rw [upd_ne (show b ≠ p from fun z => wp (by rw [← z]; exact w))]
      exact (B.M.nn iv w).1
/-- in range(n), the items of some R -/
theorem lciR_r1 {R : D → D → Prop} {pr pc : Pos} (td : TgD B.X.K g put is) (hi : ∀ i ∈ is, i ∈ own.map (·.2))
    (h : Ta B ρ [a] (kRng1 fun lo n => n < sizeLine ∧ (∀ d ∈ rngD lo n, TurnR B scope (wipeR ρ (own.map (·.2))) put elt R d) ∧ ∀ es, All2 R (rngD lo n) es → k (.lst es))) (hm : B.X.mg "range" = none)
    (hgr : Gl B.X "range" := by rfl) (hse : starEach [a] B.X.env = [(false, eval a B.X.env)] := by rfl) : LcI B ρ tg (.Call (.Name "range" pr) [a] [] pc) [] elt scope own g k :=
  ⟨_, pi_range1 hgr hm pa_W hse, fun σ H G s Q qf => h.ta s fun vs ds G1 H1 g1 i1 r1 h1 => by
    unfold kRng1 at h1
    split at h1
    · obtain ⟨h2, h3, hz, ht, hk⟩ := h1
      obtain ⟨v, rfl, rv⟩ := repAll1 r1
      have e := rv.intI
      subst e
      refine ⟨_, rfl, h2, h3, fun p hp => ?_⟩
      obtain ⟨Pv, p0, pS, pt, pd⟩ := lcR_inv (s.step g1 i1) (rep_rng 0 _) hp (by rw [rngD_length]; exact hz) ht hk td hi
      have hl : ∀ m : Nat, ((List.range m).map fun (j : Nat) => V.int (0 + (j : Int))).length = m := fun m => by rw [List.length_map, List.length_range]
      rw [hl] at pd
      exact lc_range (lo := 0) (g := g) (tt := tIfs B.X scope []) (te := tWB B.X scope elt) (vs := own.map (·.2)) (σ := σ) Pv p0 (fun i H hi q => pt i _ H (by rw [List.getElem?_map, List.getElem?_range hi]; rfl) q) fun H' q => qf _ _ (Kd.back i1 g1 (pd H' q))
    · exact h1.elim⟩
theorem lciR_l {R : D → D → Prop} (td : TgD B.X.K g put is) (hi : ∀ i ∈ is, i ∈ own.map (·.2))
    (h : Tk B ρ iter (kSeq fun ds => ds.length < sizeLine ∧ (∀ d ∈ ds, TurnR B scope (wipeR ρ (own.map (·.2))) put elt R d) ∧ ∀ es, All2 R ds es → k (.lst es))) : LcI B ρ tg iter [] elt scope own g k :=
  ⟨_, pi_list pe_W, fun σ H G s Q qf => h.te s fun v d G1 H1 g1 i1 r1 h1 => by
    obtain ⟨a, xs, ds, rfl, ha, ra, hz, h2, hk⟩ := r1.seqI h1
    have s1 := s.step g1 i1
    refine ⟨a, rfl, ⟨xs, Same.seq s1.gr.s ha⟩, fun p hp => ?_⟩
    obtain ⟨Pv, p0, pS, pt, pd⟩ := lcR_inv s1 ra hp hz h2 hk td hi
    exact lc_list (K := B.X.K) (a := a) (xs := xs) (g := g) (tt := tIfs B.X scope []) (te := tWB B.X scope elt) (vs := own.map (·.2)) (σ := σ) Pv p0 (fun i H _ q => Same.seq (pS i H q) ha) (fun i x H hx q => pt i x H hx q) fun H q => qf _ _ (Kd.back i1 g1 (pd H q))⟩
/-- one name as the target -/
theorem lcR_r1 (y : Str) (i : Nat) {R : D → D → Prop} {pr pc : Pos} (h : Ta B ρ [a] (kRng1 fun lo n => n < sizeLine ∧ (∀ j : Nat, j < n → TkB B scope ((ρ.set i .no).set i (.val (.int (lo + (j : Int))))) elt (R (.int (lo + (j : Int))))) ∧ ∀ es, All2 R (rngD lo n) es → k (.lst es))) (hm : B.X.mg "range" = none)
    (hgr : Gl B.X "range" := by rfl) (hse : starEach [a] B.X.env = [(false, eval a B.X.env)] := by rfl) : LcI B ρ tg (.Call (.Name "range" pr) [a] [] pc) [] elt scope [(y, i)] (gName i) k :=
  lciR_r1 (R := R) (td_name i) hi_one (fun σ H G s pos pins s0 I => thn (h σ H G s pos pins s0 I) fun _ _ ⟨vs, H', I', r, ds, G', g, i', rp, q⟩ => ⟨vs, H', I', r, ds, G', g, i', rp, by
    unfold kRng1 at q ⊢
    split at q
    · obtain ⟨q1, q2, q3, q4, q5⟩ := q
      refine ⟨q1, q2, q3, fun d hd => ?_, q5⟩
      unfold rngD at hd
      obtain ⟨j, hj, rfl⟩ := List.mem_map.mp hd
      exact ⟨_, rfl, q4 j (List.mem_range.mp hj)⟩
    · exact q⟩) hm hgr hse
theorem lcR_l (y : Str) (i : Nat) {R : D → D → Prop} (h : Tk B ρ iter (kSeq fun ds => ds.length < sizeLine ∧ (∀ d ∈ ds, TkB B scope ((ρ.set i .no).set i (.val d)) elt (R d)) ∧ ∀ es, All2 R ds es → k (.lst es))) : LcI B ρ tg iter [] elt scope [(y, i)] (gName i) k :=
  lciR_l (R := R) (td_name i) hi_one (h.mono fun d hd => by
    have key : ∀ {ds : List D}, (ds.length < sizeLine ∧ (∀ d ∈ ds, TkB B scope ((ρ.set i .no).set i (.val d)) elt (R d)) ∧ ∀ es, All2 R ds es → k (.lst es)) → (ds.length < sizeLine ∧ (∀ d ∈ ds, TurnR B scope (wipeR ρ ([(y, i)].map (·.2))) (putN i) elt R d) ∧ ∀ es, All2 R ds es → k (.lst es)) := fun {ds} ⟨q1, q2, q3⟩ => ⟨q1, fun d hd => ⟨_, rfl, q2 d hd⟩, q3⟩
    cases d with
    | lst ds => exact key hd
    | rdl ds => exact key hd
    | _ => exact hd.elim)
end
section
variable {B : Bx} {ρ : List En} {a b c e : Expr} {es : List Expr} {k : D → Prop} {x y z : Str} {pos p p' p'' : Pos} {rest : List Stmt} {D0 : Ed}
/-- x, y = e, [..]: y's list the def's own -/
theorem s_parL (i j : Nat) {lp : Pos} {kt kk pt2 pt} (h : Tk B ρ a fun d => Ta B ρ es fun ds => ds.length ≤ sizeLine ∧ Tss B ((ρ.set i (.val d)).set j (.own (.lst ds))) rest D0) (hc : B.X.calm = true) (hN : B.X.N.Nodup) (hij : i ≠ j := by decide) (hi : B.X.N[i]? = some x := by rfl) (hj : B.X.N[j]? = some y := by rfl)
    (hx : B.X.env.scope.names.lookup x = some .local := by rfl) (hy : B.X.env.scope.names.lookup y = some .local := by rfl)
    (hw : swappedStores [.Tuple [.Name x p', .Name y p''] kt pt] (.Tuple [a, .List es lp] kk pt2) B.X.env = pure (some [x, y]) := by rfl)
    (hs : swapsWithSole [.Tuple [.Name x p', .Name y p''] kt pt] (.Tuple [a, .List es lp] kk pt2) pos.line B.X.env = pure false := by rfl)
    (he : starEach [a, .List es lp] B.X.env = (false, eval a B.X.env) :: starEach [.List es lp] B.X.env := by rfl) (he2 : starEach [.List es lp] B.X.env = (false, eval (.List es lp) B.X.env) :: starEach [] B.X.env := by rfl) :
    Tss B ρ (.Assign [.Tuple [.Name x p', .Name y p''] kt pt] (.Tuple [a, .List es lp] kk pt2) pos :: rest) D0 := Tss.of fun kp σ H G s g =>
  ⟨_, ps_par hc hN hi hj hij hx hy (pa_cons pe_W (pa_cons (pe_lst pa_W) pa_nil he2) he) hw hs, h.te s fun v d G1 H1 g1 i1 r1 h1 => h1.ta (s.step g1 i1) fun vs ds G2 H2 g2 i2 r2 h2 => ⟨by rw [r2.length]; exact h2.1, fun q n => by
    refine ⟨v, .ref q, rfl, ?_⟩
    have s2 := ((s.step g1 i1).step g2 i2).put (i := i) (r1.mono g2.g)
    exact h2.2 kp _ _ G2 (s2.putOwn n (.lst r2)) ((g.trans g1.g).trans g2.g)⟩⟩
end
end Fz
/-! a name that holds a list or a tuple -/
namespace Fz
open PySem PySem.Spec PyProof.Rows L2
/-- a list or a tuple of these -/
def LT (sd : D) (ds : List D) : Prop := sd = .lst ds ∨ sd = .tup ds
theorem LT.items {sd : D} {ds : List D} {f : List D → Prop} (h : LT sd ds) (hf : f ds) : kItems f sd := by
  rcases h with rfl | rfl
  · exact hf
  · exact hf
theorem LT.len {sd : D} {ds : List D} {f : Nat → Prop} (h : LT sd ds) (hf : f ds.length) : kLen f sd := by
  rcases h with rfl | rfl
  · exact hf
  · exact hf
section
variable {B : Bx} {ρ : List En} {k : D → Prop} {x : Str} {pos p : Pos} {elt tg c : Expr} {scope : Scope}
theorem s_forI {body rest : List Stmt} {D0 : Ed} {sd : D} {ds : List D} (g : TG) (put : List En → D → List En → Prop) (is : List Nat) (j : Nat) (td : TgD B.X.K g put is) (hg : PG B.X tg g) (hr : ρ[j]? = some (.val sd)) (hsd : LT sd ds) (h : LoopG B ρ put body rest D0 ds)
    (po : PassesOwn (model B.X.prog B.X.w) B.X.A B.X.env B.X.xe) (hc : B.X.calm = true) (hN : B.X.N[j]? = some x := by rfl) (hv : Vis B.X.env.scope x := by first | exact Or.inl rfl | exact Or.inr (Or.inl rfl) | exact Or.inr (Or.inr rfl))
    (hd : (x == ("__debug__" : Str)) = false := by decide) (hcd : (x == ("__classdict__" : Str)) = false := by decide) (hfs : ∀ v, foldedSetIterable (.Name x p) B.X.env v = pure v := by intro _; rfl) :
    Tss B ρ (.For tg (.Name x p) body [] pos :: rest) D0 := by
  rcases hsd with rfl | rfl
  · exact s_forG g put is td hg (tk_v j hr h hN hv hd hcd) po hc hfs
  · exact s_forT g put is td hg (tk_v j hr h hN hv hd hcd) po hc hfs
theorem lcn_t {iter : Expr} (y : Str) (i : Nat) (h : Tk B ρ iter (kSeqT fun ds => ds.length < sizeLine ∧ ∃ rs : List D, All2 (NT B scope ρ i elt) ds rs ∧ k (.lst rs))) : LcI B ρ tg iter [] elt scope [(y, i)] (gName i) k :=
  lci_t (td_name i) hi_one (h.mono fun d hd => by
    cases d with
    | tup ds =>
      obtain ⟨q1, rs, q2, q3⟩ := hd
      exact ⟨q1, rs.map some, q2.to fun _ _ h => h.turn, by rw [show rs.map some = rs.map (fun x => some (id x)) from rfl, fm_some, List.map_id]; exact q3⟩
    | _ => exact hd.elim)
theorem lcn_I {sd : D} {ds : List D} (y : Str) (i j : Nat) (hr : ρ[j]? = some (.val sd)) (hsd : LT sd ds) (hz : ds.length < sizeLine) (h : ∃ rs : List D, All2 (NT B scope ρ i elt) ds rs ∧ k (.lst rs))
    (hN : B.X.N[j]? = some x := by rfl) (hv : Vis B.X.env.scope x := by first | exact Or.inl rfl | exact Or.inr (Or.inl rfl) | exact Or.inr (Or.inr rfl)) (hd : (x == ("__debug__" : Str)) = false := by decide) (hcd : (x == ("__classdict__" : Str)) = false := by decide) :
    LcI B ρ tg (.Name x p) [] elt scope [(y, i)] (gName i) k := by
  rcases hsd with rfl | rfl
  · exact lcn_l y i (tk_v j hr ⟨hz, h⟩ hN hv hd hcd)
  · exact lcn_t y i (tk_v j hr ⟨hz, h⟩ hN hv hd hcd)
/-- an if, then what J tells -/
theorem s_ifJ {body orelse rest : List Stmt} {D0 : Ed} (J : List En → Prop) (h : Tt B ρ c fun t => cB t (Tss B ρ body (D0.turn B (fun _ => J) 0)) (Tss B ρ orelse (D0.turn B (fun _ => J) 0))) (hr : ∀ ρ', J ρ' → Tss B ρ' rest D0) : Tss B ρ (.If c body orelse pos :: rest) D0 := Tss.of fun kp σ H G s g =>
  ⟨_, ps_if pt_W pss_W pss_W, h.tt s fun t G' H' g' i' h' => by
    have go : ∀ st, Tss B ρ st (D0.turn B (fun _ => J) 0) → tWS B.X st { nx := tWS B.X rest (D0.e B kp), rt := D0.r B } σ H' := fun st q =>
      tWS_mono (q kp σ H' G' (s.step g' i') (g.trans g'.g)) (fun σ2 H2 ⟨ρ2, G2, hJ, s2, g2⟩ => hr ρ2 hJ kp σ2 H2 G2 s2 g2) (fun _ _ q => q) (fun _ _ q => q.elim) (fun _ _ q => q.elim)
    cases t with
    | true =>
      rw [if_pos rfl]
      exact go body h'
    | false =>
      rw [if_neg Bool.false_ne_true]
      exact go orelse h'⟩
end
end Fz
/-! displays of constants, read at once; the goals' forms that are not unfolded -/
namespace Fz
open PySem PySem.Spec PyProof.Rows L2
mutual
def litD : Nat → Expr → Option D
  | 0, _ => none
  | n + 1, e => match e with
    | .Constant .none _ _ => some .non
    | .Constant (.int i) _ _ => some (.int i)
    | .Constant (.str i) _ _ => some (.str i)
    | .Constant (.bool i) _ _ => some (.bl i)
    | .UnaryOp .USub (.Constant (.int i) _ _) _ => some (.int (-i))
    | .Tuple es _ _ => match litDs n es with | some ds => if ds.length ≤ 1000 then some (.tup ds) else none | none => none
    | .List es _ => match litDs n es with | some ds => if ds.length ≤ 1000 then some (.lst ds) else none | none => none
    | _ => none
def litDs : Nat → List Expr → Option (List D)
  | 0, _ => none
  | n + 1, es => match es with
    | [] => some []
    | e :: es => match litD n e, litDs n es with | some d, some ds => some (d :: ds) | _, _ => none
end
structure TkS (B : Bx) (ρ : List En) (e : Expr) (k : D → Prop) : Prop where
  h : Tk B ρ e k
structure TssS (B : Bx) (ρ : List En) (st : List Stmt) (D0 : Ed) : Prop where
  h : Tss B ρ st D0
theorem lit_star {n : Nat} {e : Expr} {es : List Expr} {d : D} {env : Env} (h : litD n e = some d) : starEach (e :: es) env = (false, eval e env) :: starEach es env := by
  cases n with
  | zero => cases h
  | succ n => cases e <;> first | rfl | cases h
section
variable {B : Bx} {ρ : List En} {x : Str} {p' pos : Pos} {e : Expr} {rest : List Stmt} {D0 : Ed}
theorem lit_all : ∀ n : Nat, (∀ (e : Expr) (d : D) (k : D → Prop), litD n e = some d → k d → Tk B ρ e k) ∧ (∀ (es : List Expr) (ds : List D) (k : List D → Prop), litDs n es = some ds → k ds → Ta B ρ es k)
  | 0 => by
    refine ⟨fun e d k h hk => ?_, fun es ds k h hk => ?_⟩ <;> cases h
  | n + 1 => by
    obtain ⟨i1, i2⟩ := lit_all n
    refine ⟨fun e d k h hk => ?_, fun es ds k h hk => ?_⟩
    · unfold litD at h
      split at h
      · cases h; exact tk_n hk
      · cases h; exact tk_i hk
      · cases h; exact tk_s hk
      · cases h; exact tk_b hk
      · cases h; exact tk_neg (tk_i hk)
      · split at h
        · next ds e1 =>
          split at h
          · next hl => cases h; exact tk_tup (i2 _ ds _ e1 ⟨lenOk hl, hk⟩)
          · cases h
        · cases h
      · split at h
        · next ds e1 =>
          split at h
          · next hl => cases h; exact tk_lst (i2 _ ds _ e1 ⟨lenOk hl, hk⟩)
          · cases h
        · cases h
      · cases h
    · unfold litDs at h
      split at h
      · cases h; exact ta_nil hk
      · next e es =>
        split at h
        · next d ds e1 e2 =>
          cases h
          exact ta_cons (i1 _ d _ e1 (i2 _ ds _ e2 hk)) (lit_star e1)
        · cases h
theorem tk_lit {k : D → Prop} (n : Nat) {d : D} (h : litD n e = some d) (hk : k d) : TkS B ρ e k := ⟨(lit_all n).1 e d k h hk⟩
theorem s_setLit (i n : Nat) {d : D} (h : litD n e = some d) (hk : Tss B (ρ.set i (.val d)) rest D0) (hN : B.X.N.Nodup) (hi : B.X.N[i]? = some x := by rfl) (hx : Loc B.X.env.scope x := by first | exact .inl rfl | exact .inr rfl)
    (hs : swapsWith e (some (.Name x p')) pos.line B.X.env = pure false := by rfl) (hf : B.X.fn x = true ∨ B.X.env.scope.names.lookup x = some .local := by first | exact .inl rfl | exact .inr rfl) :
    TssS B ρ (.Assign [.Name x p'] e pos :: rest) D0 := ⟨s_set i ((lit_all n).1 e d _ h hk) hN hi hx hs hf⟩
end
end Fz
/-! a call of a def that was picked from a list -/
namespace Fz
open PySem PySem.Spec PyProof.Rows L2
section
variable {X : Cx} {CX : CXT} {k : Nat} {f : Addr} {fd : FuncData} {ps : List Str} {sp : Sp} {E : L2.St → XK} {pos : Pos} {e fe : Expr} {es : List Expr} {te : TE} {t : TA}
theorem pe_callE (F : FnOk X.prog X.w X.K X.mg X.base CX k f fd ps sp) (hr : Room k X.A) (hf : PE X fe te) (hk : PySem.W.keepIn X.K (.ref f) = true) (hb : Binds X.K fd ps []) (hx : ∀ σ, PassesAt CX X σ (E σ))
    (ha : PA X (e :: es) t) (hev : eval (.Call fe (e :: es) [] pos) X.env = (do callWith pos (← eval fe X.env) [] (backTo pos (starEach (e :: es) X.env)) (backToKw pos (keywordEach [] X.env))))
    (he : starEach (e :: es) X.env = (false, eval e X.env) :: starEach es X.env) (hpl : (backTo pos (starEach es X.env)).any (·.1) = false) :
    PE X (.Call fe (e :: es) [] pos) (fun σ H Q => te σ H fun v H1 => v = .ref f ∧ t σ H1 fun vs H2 => sp vs H2 Q (E σ)) := by
  refine ⟨fun pins s σ H Q I h => ?_⟩
  rw [hev]
  refine wpAny_bind (thn (hf.run pins s σ H _ I h) fun u s1 ⟨v, H1, I1, rv, ev, q⟩ => ?_)
  subst ev
  obtain rfl : u = Value.ref f := rv
  refine PySem.W.callWith_K (h₀ := X.base) I1.ok.mod.kin hk (thn (ha.run pos pins s1 σ H1 _ I1 q) fun us s2 ⟨vs, H2, I2, r, q2⟩ => ⟨I2.kIn, ?_⟩) he hpl
  exact run_fnS F hr hb (hx σ) I2 r q2
/-- // by a number that may be below 0 -/
def CDivZ (_ j : Int) : Prop := j ≠ 0 ∧ j.natAbs.log2 < 9000
theorem op_fdivZ : OpR X (binaryOp .FloorDiv) (rI CDivZ fun i j => .int (i.fdiv j)) := opI fun i j _ _ _ _ _ hc q => floordiv_int hc.1 q (.inl (PyProof.noPylong_of_log2 hc.2))
theorem Sz.divZ {a : Nat} {x y : Int} (h : y ≠ 0) (g : Sz a y) (l : a ≤ 9000 := by omega) (h0 : 0 < a := by omega) : CDivZ x y := ⟨h, Nat.lt_of_lt_of_le (PySem.Flt.log2_lt_of h0 g) l⟩
theorem d_fdivZ {B : Bx} : OpD B (binaryOp .FloorDiv) (oIC CDivZ fun i j => .int (i.fdiv j)) := .intC op_fdivZ fun _ _ _ => .int _
end
section
variable {B : Bx} {ρ : List En} {e fe : Expr} {es : List Expr} {k : D → Prop} {x : Str} {pos p : Pos}
/-- .. that may raise -/
theorem tk_knE {ι : Type} {M : ι → Md} {C : ι → Prop} {A : ι → List D} {R : ι → D → Prop} {XR : ι → Addr → List (Str × D) → Prop} {YR : Addr → List (Str × D) → Prop} {n : Nat}
    (F : Kn B.X.prog B.X.w B.X.K B.X.mg B.X.base B.S x n M C A R XR) {rm : Nat} (hr : Room rm B.X.A) (rz : Rz B ρ YR)
    (h : ∀ f, B.X.mg x = some (.ref f) → Tk B ρ fe fun d => d = .ref f ∧ Ta B ρ (e :: es) fun ds => ∃ i, ds = A i ∧ C i ∧ Sub (M i) B.M ∧ (∀ c fs, XR i c fs → YR c fs) ∧ ∀ d, R i d → k d)
    (hev : eval (.Call fe (e :: es) [] pos) B.X.env = (do callWith pos (← eval fe B.X.env) [] (backTo pos (starEach (e :: es) B.X.env)) (backToKw pos (keywordEach [] B.X.env))) := by rfl)
    (he : starEach (e :: es) B.X.env = (false, eval e B.X.env) :: starEach es B.X.env := by rfl) (hpl : (backTo pos (starEach es B.X.env)).any (·.1) = false := by rfl) (hrm : n ≤ rm := by decide) :
    Tk B ρ (.Call fe (e :: es) [] pos) k := by
  obtain ⟨f, fd, ps, hm, hk, hb, F⟩ := F.ex
  obtain ⟨W, tk, hW⟩ := rz
  refine Tk.of fun σ H G s => ⟨_, pe_callE (E := WE W) F (hr.mono hrm) pe_W hk hb (passAt tk) pa_W hev he hpl, (h f hm).te s fun v d G0 H0 g0 i0 r0 ⟨ed, hT⟩ => ?_⟩
  subst ed
  refine ⟨r0.refI, hT.ta (s.step g0 i0) fun vs ds G1 H1 g1 i1 r1 h1 => ?_⟩
  obtain ⟨i, rfl, ci, sb, hx, q⟩ := h1
  have s1 := (s.step g0 i0).step g1 i1
  refine ⟨i, G1, ci, s1.gr.s, sb.inn i1, r1, fun v d G' H' g j r hR => ?_, fun c fs od G' H' g j xd z => ?_⟩
  · obtain ⟨g', j'⟩ := sb.up i1 g j
    exact .back i0 g0 (.back i1 g1 ⟨d, G', g', j', r, q d hR⟩)
  · obtain ⟨g', j'⟩ := sb.up i1 g j
    exact hW c fs od σ H' G' (s1.step g' j') xd (hx c fs z)
/-- .. that does not raise -/
theorem tk_knE0 {ι : Type} {M : ι → Md} {C : ι → Prop} {A : ι → List D} {R : ι → D → Prop} {XR : ι → Addr → List (Str × D) → Prop} {n : Nat}
    (F : Kn B.X.prog B.X.w B.X.K B.X.mg B.X.base B.S x n M C A R XR) {rm : Nat} (hr : Room rm B.X.A)
    (h : ∀ f, B.X.mg x = some (.ref f) → Tk B ρ fe fun d => d = .ref f ∧ Ta B ρ (e :: es) fun ds => ∃ i, ds = A i ∧ C i ∧ Sub (M i) B.M ∧ (∀ c fs, ¬ XR i c fs) ∧ ∀ d, R i d → k d)
    (hev : eval (.Call fe (e :: es) [] pos) B.X.env = (do callWith pos (← eval fe B.X.env) [] (backTo pos (starEach (e :: es) B.X.env)) (backToKw pos (keywordEach [] B.X.env))) := by rfl)
    (he : starEach (e :: es) B.X.env = (false, eval e B.X.env) :: starEach es B.X.env := by rfl) (hpl : (backTo pos (starEach es B.X.env)).any (·.1) = false := by rfl) (hrm : n ≤ rm := by decide) :
    Tk B ρ (.Call fe (e :: es) [] pos) k := by
  obtain ⟨f, fd, ps, hm, hk, hb, F⟩ := F.ex
  refine Tk.of fun σ H G s => ⟨_, pe_callE F (hr.mono hrm) pe_W hk hb (fun σ pins H s e s' I c => passX0 pins σ H s e s' I c) pa_W hev he hpl, (h f hm).te s fun v d G0 H0 g0 i0 r0 ⟨ed, hT⟩ => ?_⟩
  subst ed
  refine ⟨r0.refI, hT.ta (s.step g0 i0) fun vs ds G1 H1 g1 i1 r1 h1 => ?_⟩
  obtain ⟨i, rfl, ci, sb, hx, q⟩ := h1
  have s1 := (s.step g0 i0).step g1 i1
  refine ⟨i, G1, ci, s1.gr.s, sb.inn i1, r1, fun v d G' H' g j r hR => ?_, fun c fs od G' H' g j xd z => ?_⟩
  · obtain ⟨g', j'⟩ := sb.up i1 g j
    exact .back i0 g0 (.back i1 g1 ⟨d, G', g', j', r, q d hR⟩)
  · exact absurd z (hx c fs)
/-- a def's name -/
theorem tk_fn {f : Addr} (hm : B.X.mg x = some (.ref f)) (h : k (.ref f)) (hg : Gl B.X x := by rfl) (hd : (x == ("__debug__" : Str)) = false := by decide) : Tk B ρ (.Name x pos) k :=
  tk_g hm (v := .ref f) rfl (fun _ => .ref f) h hg hd
def kLst (n : Nat) (f : List D → Prop) : D → Prop
  | .lst ds => ds.length = n ∧ f ds
  | _ => False
/-- (a, b, ..) = e, e a list -/
theorem s_unpL {rest : List Stmt} {D0 : Ed} (is : List Nat) {kt pt} (h : Tk B ρ e (kLst is.length fun ds => Tss B (putAll ρ is ds) rest D0)) (hg : PGs B.X es (gNames is)) (hc : B.X.calm = true)
    (hn : (assignEach es B.X.env).length = is.length := by rfl) (hst : (assignEach es B.X.env).findIdx? (·.1) = none := by rfl)
    (hs : swapsWithSole [.Tuple es kt pt] e pos.line B.X.env = pure false := by rfl) (hw : swappedStores [.Tuple es kt pt] e B.X.env = pure none := by rfl)
    (h1 : (assignEach [.Tuple es kt pt] B.X.env).map (·.2) = [assign (.Tuple es kt pt) B.X.env] := by rfl) : Tss B ρ (.Assign [.Tuple es kt pt] e pos :: rest) D0 := Tss.of fun kp σ H G s g =>
  ⟨_, ps_asg pe_W (pg_lst hc hg hn hst) hs hw h1, h.te s fun v d G' H' g' i' r' h' => by
    cases d with
    | lst ds =>
      obtain ⟨hl, hk⟩ := h'
      obtain ⟨a, xs, rfl, hx, ra⟩ := r'.lstI
      have s1 := s.step g' i'
      exact ⟨a, xs, rfl, .inl (.inl (s1.gr.s _ _ hx)), by rw [ra.length]; exact hl, gNames_run s1 ra hl fun σ' s' => hk kp σ' _ G' s' (g.trans g'.g)⟩
    | _ => exact h'.elim⟩
end
end Fz
/-! an item of an own list is set -/
namespace Fz
open PySem PySem.Spec PyProof.Rows L2
section
variable {B : Bx} {ρ : List En} {e ix : Expr} {x : Str} {pos : Pos} {rest : List Stmt} {D0 : Ed}
theorem s_lset (j : Nat) {q0 : Option Addr} {ds : List D} {np tp : Pos} (hr : ρ[j]? = some (.ow q0 (.lst ds)))
    (h : Tk B ρ e fun d => Tk B ρ ix fun y => ∃ (k : Int) (i : Nat), y = .int k ∧ ixN ds.length k = some i ∧ Tss B (ρ.set j (.ow q0 (.lst (ds.set i d)))) rest D0)
    (hN : B.X.N[j]? = some x := by rfl) (hv : Vis B.X.env.scope x := by first | exact Or.inl rfl | exact Or.inr (Or.inl rfl) | exact Or.inr (Or.inr rfl))
    (hd : (x == ("__debug__" : Str)) = false := by decide) (hcd : (x == ("__classdict__" : Str)) = false := by decide)
    (ha : ∀ v, assign (.Subscript (.Name x np) ix tp) B.X.env v = (do
      let ov ← holding [v] (eval (.Name x np) B.X.env)
      let iv ← holding [v, ov] (eval ix B.X.env)
      standAt tp
      holding [v, ov, iv] (setItem ov iv v)
      release [v, ov, iv] []) := by intro _; rfl)
    (hs : swapsWithSole [.Subscript (.Name x np) ix tp] e pos.line B.X.env = pure false := by rfl) (hw : swappedStores [.Subscript (.Name x np) ix tp] e B.X.env = pure none := by rfl)
    (h1 : (assignEach [.Subscript (.Name x np) ix tp] B.X.env).map (·.2) = [assign (.Subscript (.Name x np) ix tp) B.X.env] := by rfl) :
    Tss B ρ (.Assign [.Subscript (.Name x np) ix tp] e pos :: rest) D0 := Tss.of fun kp σ H G s g => by
  obtain ⟨q, ob, e1, e2, gp, h0, hw', t, _⟩ := s.ow j _ _ hr
  cases t with
  | @lst xs _ ra =>
    refine ⟨_, ps_asg pe_W (pg_sub (pe_var hN hv hd hcd) pe_W set_list ha) hs hw h1, h.te s fun v d G1 H1 g1 i1 r1 h1 => ⟨.ref q, e1, h1.te (s.step g1 i1) fun v2 d2 G2 H2 g2 i2 r2 h2 => ?_⟩⟩
    obtain ⟨k, i, rfl, hk, h3⟩ := h2
    have s2 := (s.step g1 i1).step g2 i2
    refine ⟨q, xs, k, i, rfl, r2.intI, g2.h _ _ hw' (g1.h _ _ hw' e2), by rw [ra.length]; exact hk, ?_⟩
    exact h3 kp _ _ G2 (s2.change hr e1 (.lst (((ra.mono g1.g).mono g2.g).set (r1.mono g2.g) i))) ((g.trans g1.g).trans g2.g)
end
end Fz
/-! an own list made by a comprehension; a comprehension over an own list; isinstance and == of an own class -/
namespace Fz
open PySem PySem.Spec PyProof.Rows L2
open C8 (InsC pe_gc)
section
variable {B : Bx} {ρ : List En} {σ : L2.St} {H G H1 G1 : Hp}
/-- an address that was free before is from now on the def's own -/
theorem StOk.putAt {i : Nat} {p : Addr} {o : HO} {d0 : D} (s1 : StOk B ρ σ H1 G1) (n : H1 p = none) (s : StOk B ρ σ H G) (hp : H p = some o) (gp : G p = none) (t : Top B.X.K B.S G o d0) : StOk B (ρ.set i (.own d0)) (σ.set i (some (.ref p))) H G := by
  have hw : ¬ B.M.W p := fun w => by
    obtain ⟨_, o', e⟩ := B.M.nn s1.inv w
    rw [n] at e; cases e
  have h0 : B.H0 p = none := by
    cases e : B.H0 p with
    | none => rfl
    | some o' => rw [s1.gr.h p o' hw e] at n; cases n
  have hl : ∀ {c : Nat} {f : En}, (ρ.set i (En.own d0))[c]? = some f → i = c → i < ρ.length := fun {c f} h z => by
    subst z
    have := (List.getElem?_eq_some_iff.mp h).1
    rwa [List.length_set] at this
  refine ⟨s.gr, s.inv, by rw [List.length_set, List.length_set, s.len], fun j e h => ?_, fun j q0 e h => ?_, fun a b q0 r0 d e q h1 h2 h3 h4 => ?_, ?_⟩
  · by_cases hij : i = j
    · have l := hl h hij
      subst hij
      rw [List.getElem?_set_self l] at h
      cases h
    · rw [List.getElem?_set_ne hij] at h ⊢
      exact s.va j e h
  · by_cases hij : i = j
    · have l := hl h hij
      subst hij
      rw [List.getElem?_set_self l] at h
      cases h
      exact ⟨p, o, List.getElem?_set_self (by rw [s.len]; exact l), hp, gp, h0, hw, t, fun _ z => nomatch z⟩
    · rw [List.getElem?_set_ne hij] at h ⊢
      exact s.ow j q0 e h
  · have old : ∀ {c : Nat} {q1 : Option Addr} {f : D}, i ≠ c → (ρ.set i (En.own d0))[c]? = some (En.ow q1 f) → (σ.set i (some (.ref p)))[c]? = some (some (.ref q)) → q ≠ p := fun {c q1 f} ne h h' => by
      rw [List.getElem?_set_ne ne] at h h'
      obtain ⟨q', o', e1, e2, _⟩ := s1.ow c q1 f h
      rw [h'] at e1
      cases e1
      exact ne_of_none e2 n
    by_cases ha : i = a
    · by_cases hb : i = b
      · exact ha.symm.trans hb
      · exfalso
        have l := hl h1 ha
        subst ha
        rw [List.getElem?_set_self (by rw [s.len]; exact l)] at h3
        cases h3
        exact old hb h2 h4 rfl
    · by_cases hb : i = b
      · exfalso
        have l := hl h2 hb
        subst hb
        rw [List.getElem?_set_self (by rw [s.len]; exact l)] at h4
        cases h4
        exact old ha h1 h3 rfl
      · rw [List.getElem?_set_ne ha] at h1 h3
        rw [List.getElem?_set_ne hb] at h2 h4
        exact s.ap a b _ _ d e q h1 h2 h3 h4
  · by_cases hil : i < σ.length
    · exact s.rd.putOw hil (fun b o _ e => e) fun j r h hb => by
        obtain ⟨o, e⟩ := s1.rd.sm h hb
        rw [n] at e
        cases e
    · rw [List.set_eq_of_length_le (by rw [← s.len]; omega), List.set_eq_of_length_le (by omega)]
      exact s.rd
end
section
variable {B : Bx} {ρ : List En} {a b e elt tg iter : Expr} {k : D → Prop} {pos p : Pos} {x : Str} {scope : Scope} {own : List (Str × Nat)} {put : List En → D → List En → Prop} {is : List Nat} {g : TG}
/-- the loop of a comprehension of drawn items, its list not yet let go -/
theorem lcO_inv {R : D → D → Prop} {σ : L2.St} {G1 H1 : Hp} {p : Addr} {ds : List D} {xs : List V} (s : StOk B ρ σ H1 G1) (ra : RepAll B.X.K B.S G1 xs ds) (hp : H1 p = none) (hsz : ds.length < sizeLine) (h : ∀ d ∈ ds, TurnR B scope (wipeR ρ (own.map (·.2))) put elt R d)
    (td : TgD B.X.K g put is) (hi : ∀ i ∈ is, i ∈ own.map (·.2)) :
    ∃ Pv : Nat → Hp → Prop, Pv 0 (upd H1 p (.lst [])) ∧
      (∀ i v H, xs[i]? = some v → Pv i H → g v (wipe σ (own.map (·.2))) H fun σ2 H2 => wipe σ2 (own.map (·.2)) = wipe σ (own.map (·.2)) ∧ tIfs B.X scope [] σ2 H2 fun b H3 => if b = true then tWB B.X scope elt σ2 H3 fun y H4 => ∃ acc, H4 p = some (.lst acc) ∧ acc.length < sizeLine ∧ Pv (i + 1) (upd H4 p (.lst (acc ++ [y]))) else Pv (i + 1) H3) ∧
      ∀ H, Pv xs.length H → ∃ G acc es, Gr B.M.W G1 H1 G H ∧ B.M.I G H ∧ StOk B ρ σ H G ∧ H p = some (.lst acc) ∧ G p = none ∧ RepAll B.X.K B.S G acc es ∧ All2 R ds es := by
  have gp : G1 p = none := s.gr.s.free hp
  have wp : ¬ B.M.W p := fun w => by
    obtain ⟨_, o', e⟩ := B.M.nn s.inv w
    rw [hp] at e; cases e
  refine ⟨fun i H => ∃ G acc es, Gr B.M.W G1 H1 G H ∧ B.M.I G H ∧ StOk B ρ σ H G ∧ H p = some (.lst acc) ∧ G p = none ∧ RepAll B.X.K B.S G acc es ∧ All2 R (ds.take i) es ∧ i ≤ ds.length, ?_, fun i v H hv ⟨G, acc, es, gr, iv, so, hpa, gpa, rca, hac, hil⟩ => ?_, fun H ⟨G, acc, es, gr, iv, so, hpa, gpa, rca, hac, hil⟩ => ?_⟩
  · have hs : Same H1 (upd H1 p (.lst [])) := same_new hp
    have g1 : Gr B.M.W G1 H1 G1 (upd H1 p (.lst [])) := ⟨.refl _, s.gr.s.trans hs, fun b o _ q => hs b o q, fun _ _ _ n => n⟩
    have i1 : B.M.I G1 (upd H1 p (.lst [])) := B.M.st s.inv (.refl _) (s.gr.s.trans hs) (fun b w => (B.M.nn s.inv w).1) fun b o _ q => hs b o q
    exact ⟨G1, [], [], g1, i1, s.step g1 i1, upd_same, gp, .nil, .nil, Nat.zero_le _⟩
  · obtain ⟨d, hd, rd⟩ := ra.getV hv
    have hlt : i < ds.length := (List.getElem?_eq_some_iff.mp hd).1
    have htake : ds.take (i + 1) = ds.take i ++ [d] := by
      rw [List.take_add_one, hd]; rfl
    obtain ⟨ρ', hput, ht⟩ := h d (List.mem_of_getElem? hd)
    refine td.run rfl hput (so.wipe (own.map (·.2))) (rd.mono gr.g) fun σ' s' hw => ⟨by rw [hw _ hi, wipe_twice], ?_⟩
    refine tifs_yes ?_
    intro sh Hb C cl fp
    refine (ht sh Hb C cl fp).te s'.blk fun y z G' H' g' i' ry hR => ?_
    have gg : Gr B.M.W G1 H1 G' H' := gr.trans iv g'
    have hl2 : acc.length = i := by
      have := hac.length
      rw [List.length_take, Nat.min_eq_left hil] at this
      rw [rca.length, ← this]
    have hs : Same G' (upd H' p (.lst (acc ++ [y]))) := fun b o q => by
      rw [upd_ne (ne_of_none q (g'.d _ _ hpa gpa))]
      exact g'.s b o q
    have g2 : Gr B.M.W G1 H1 G' (upd H' p (.lst (acc ++ [y]))) := ⟨gg.g, hs, fun b o w q => by
      rw [upd_ne (ne_of_none q hp)]
      exact gg.h b o w q, gg.d⟩
    have i2 : B.M.I G' (upd H' p (.lst (acc ++ [y]))) := B.M.st i' (.refl _) hs (fun b w => (B.M.nn i' w).1) fun b o w q => by
      rw [upd_ne (show b ≠ p from fun z => wp (by rw [← z]; exact w))]
      exact q
    exact ⟨acc, g'.h _ _ wp hpa, by omega, G', acc ++ [y], es ++ [z], g2, i2, s.step g2 i2, upd_same, g'.d _ _ hpa gpa, (rca.mono g'.g).append (.one ry), by rw [htake]; exact hac.snoc hR, hlt⟩
  · have hds : xs.length = ds.length := ra.length
    rw [hds, List.take_length] at hac
    exact ⟨G, acc, es, gr, iv, so, hpa, gpa, rca, hac⟩
/-- name = [elt for y in range(n)], drawn, the list the def's own -/
theorem s_ownC (i : Nat) (y : Str) (iy : Nat) {R : D → D → Prop} {pr pc py spos : Pos} {z : Str} {rest : List Stmt} {D0 : Ed}
    (h : Ta B ρ [a] (kRng1 fun lo n => n < sizeLine ∧ (∀ j : Nat, j < n → TkB B scope ((ρ.set iy .no).set iy (.val (.int (lo + (j : Int))))) elt (R (.int (lo + (j : Int))))) ∧ ∀ es, All2 R (rngD lo n) es → Tss B (ρ.set i (.own (.lst es))) rest D0)) (hm : B.X.mg "range" = none)
    (hc : B.X.calm = true) (hN : B.X.N.Nodup) (ok : BlkOk B.X.N B.X.env.scope scope [(y, iy)])
    (hg : ∀ (s : Shared) (H : Hp) (C : Addr) (cl : List (Str × Addr)) (fp : List Addr), PG (B.X.blk s H scope (compEnvC scope cl C B.X.env) fp) tg (gName iy))
    (hi : B.X.N[i]? = some z := by rfl) (hx : Loc B.X.env.scope z := by first | exact .inl rfl | exact .inr rfl)
    (hs : swapsWith (.ListComp elt [⟨tg, .Call (.Name "range" pr) [a] [] pc, [], 0⟩] scope pos) (some (.Name z py)) spos.line B.X.env = pure false := by rfl) (hf : B.X.fn z = true ∨ B.X.env.scope.names.lookup z = some .local := by first | exact .inl rfl | exact .inr rfl)
    (hgr : Gl B.X "range" := by rfl) (hse : starEach [a] B.X.env = [(false, eval a B.X.env)] := by rfl)
    (hfs : ∀ v, foldedSetIterable (.Call (.Name "range" pr) [a] [] pc) B.X.env v = pure v := by intro _; rfl) :
    Tss B ρ (.Assign [.Name z py] (.ListComp elt [⟨tg, .Call (.Name "range" pr) [a] [] pc, [], 0⟩] scope pos) spos :: rest) D0 := Tss.of fun kp σ H G s gk =>
  ⟨_, ps_set hN hi hx (pe_lc (te := tWB B.X scope elt) (tt := tIfs B.X scope []) hc hN (pi_range1 hgr hm pa_W hse) ok hg (pts_W (Nat.zero_le _)) (fun s' H' C cl fp => ⟨fun pins s0 σ H Q I h => h s' H' C cl fp pins s0 I⟩) hfs) hs hf, h.ta s fun vs ds G1 H1 g1 i1 r1 h1 => by
    unfold kRng1 at h1
    split at h1
    · obtain ⟨h2, h3, hz, ht, hk⟩ := h1
      obtain ⟨v, rfl, rv⟩ := repAll1 r1
      have e := rv.intI
      subst e
      refine ⟨_, rfl, h2, h3, fun p hp => ?_⟩
      have s1 := s.step g1 i1
      obtain ⟨Pv, p0, pt, pd⟩ := lcO_inv (own := [(y, iy)]) (put := putN iy) (elt := elt) (scope := scope) (R := R) s1 (rep_rng 0 _) hp (by rw [rngD_length]; exact hz) (fun d hd => by
        unfold rngD at hd
        obtain ⟨j, hj, rfl⟩ := List.mem_map.mp hd
        exact ⟨_, rfl, ht j (List.mem_range.mp hj)⟩) (td_name iy) hi_one
      have hl : ∀ m : Nat, ((List.range m).map fun (j : Nat) => V.int (0 + (j : Int))).length = m := fun m => by rw [List.length_map, List.length_range]
      rw [hl] at pd
      exact lc_range (lo := 0) (g := gName iy) (tt := tIfs B.X scope []) (te := tWB B.X scope elt) (vs := [(y, iy)].map (·.2)) (σ := σ) Pv p0 (fun i H hi q => pt i _ H (by rw [List.getElem?_map, List.getElem?_range hi]; rfl) q) fun H' q => by
        obtain ⟨G', acc, es, gr, iv, so, hpa, gpa, rca, hac⟩ := pd H' q
        exact hk es hac kp _ _ G' (s1.putAt hp so hpa gpa (.lst rca)) ((gk.trans g1.g).trans gr.g)
    · exact h1.elim⟩
/-- a comprehension's loop over a list; the heap grows -/
theorem lcG_inv {ifs : List Expr} {σ : L2.St} {G1 H1 : Hp} {p : Addr} {ds : List D} {rs : List (Option D)} {xs : List V} (s : StOk B ρ σ H1 G1) (ra : RepAll B.X.K B.S G1 xs ds) (hp : H1 p = none) (hsz : ds.length < sizeLine) (h : All2 (LcTurn B scope (wipeR ρ (own.map (·.2))) put ifs elt) ds rs) (hk : k (.lst (rs.filterMap id)))
    (td : TgD B.X.K g put is) (hi : ∀ i ∈ is, i ∈ own.map (·.2)) :
    ∃ Pv : Nat → Hp → Prop, Pv 0 (upd H1 p (.lst [])) ∧ (∀ i H, Pv i H → ∃ G, Gr B.M.W G1 H1 G H) ∧
      (∀ i v H, xs[i]? = some v → Pv i H → g v (wipe σ (own.map (·.2))) H fun σ2 H2 => wipe σ2 (own.map (·.2)) = wipe σ (own.map (·.2)) ∧ tIfs B.X scope ifs σ2 H2 fun b H3 => if b = true then tWB B.X scope elt σ2 H3 fun y H4 => ∃ acc, H4 p = some (.lst acc) ∧ acc.length < sizeLine ∧ Pv (i + 1) (upd H4 p (.lst (acc ++ [y]))) else Pv (i + 1) H3) ∧
      ∀ H, Pv xs.length H → Kd B G1 H1 k (.ref p) H := by
  have gp : G1 p = none := s.gr.s.free hp
  have wp : ¬ B.M.W p := fun w => by
    obtain ⟨_, o', e⟩ := B.M.nn s.inv w
    rw [hp] at e; cases e
  have hlen : xs.length = rs.length := ra.length.trans h.length
  refine ⟨fun i H => ∃ G acc, Gr B.M.W G1 H1 G H ∧ B.M.I G H ∧ StOk B ρ σ H G ∧ H p = some (.lst acc) ∧ G p = none ∧ RepAll B.X.K B.S G acc ((rs.take i).filterMap id) ∧ acc.length ≤ i, ?_, fun i H ⟨G, acc, gr, _⟩ => ⟨G, gr⟩, fun i v H hv ⟨G, acc, gr, iv, so, hpa, gpa, rca, hac⟩ => ?_, fun H ⟨G, acc, gr, iv, so, hpa, gpa, rca, hac⟩ => ?_⟩
  · have hs : Same H1 (upd H1 p (.lst [])) := same_new hp
    have g1 : Gr B.M.W G1 H1 G1 (upd H1 p (.lst [])) := ⟨.refl _, s.gr.s.trans hs, fun b o _ q => hs b o q, fun _ _ _ n => n⟩
    have i1 : B.M.I G1 (upd H1 p (.lst [])) := B.M.st s.inv (.refl _) (s.gr.s.trans hs) (fun b w => (B.M.nn s.inv w).1) fun b o _ q => hs b o q
    exact ⟨G1, [], g1, i1, s.step g1 i1, upd_same, gp, .nil, Nat.le_refl _⟩
  · obtain ⟨d, hd, rd⟩ := ra.getV hv
    obtain ⟨r, hr, ht⟩ := h.get hd
    have htake : rs.take (i + 1) = rs.take i ++ [r] := by
      rw [List.take_add_one, hr]; rfl
    have hil : i < ds.length := (List.getElem?_eq_some_iff.mp hd).1
    refine lc_turn td hi ht so (rd.mono gr.g) hpa gpa wp rca (by omega) (fun G' H' g' i' er => ?_) (fun G' H' y x g' i' er ry => ?_)
    · refine ⟨G', acc, gr.trans iv g', i', so.step g' i', g'.h _ _ wp hpa, g'.d _ _ hpa gpa, ?_, by omega⟩
      rw [htake, List.filterMap_append, er]
      show RepAll B.X.K B.S G' acc (_ ++ [])
      rw [List.append_nil]
      exact rca.mono g'.g
    · have hs : Same G' (upd H' p (.lst (acc ++ [y]))) := fun b o q => by
        rw [upd_ne (ne_of_none q (g'.d _ _ hpa gpa))]
        exact g'.s b o q
      have gg := gr.trans iv g'
      have g2 : Gr B.M.W G1 H1 G' (upd H' p (.lst (acc ++ [y]))) := ⟨gg.g, hs, fun b o w q => by
        rw [upd_ne (ne_of_none q hp)]
        exact gg.h b o w q, gg.d⟩
      have i2 : B.M.I G' (upd H' p (.lst (acc ++ [y]))) := B.M.st i' (.refl _) hs (fun b w => (B.M.nn i' w).1) fun b o w q => by
        rw [upd_ne (show b ≠ p from fun z => wp (by rw [← z]; exact w))]
        exact q
      refine ⟨G', acc ++ [y], g2, i2, s.step g2 i2, upd_same, g'.d _ _ hpa gpa, ?_, by rw [List.length_append, List.length_singleton]; omega⟩
      rw [htake, List.filterMap_append, er]
      exact (rca.mono g'.g).append (.one ry)
  · rw [hlen, List.take_length] at rca
    have hg : Same G (upd G p (.lst acc)) := same_new gpa
    have hs : Same (upd G p (.lst acc)) H := fun b o q => by
      by_cases hb : b = p
      · subst hb
        rw [upd_same] at q
        cases q
        exact hpa
      · rw [upd_ne hb] at q
        exact gr.s b o q
    refine ⟨_, upd G p (.lst acc), ⟨gr.g.trans hg, hs, gr.h, fun b o q n => ?_⟩, B.M.st iv hg hs (fun b w => ?_) (fun b o _ q => q), .obj upd_same (.lst (rca.mono hg)), hk⟩
    · rw [upd_ne (ne_of_none q hp)]
      exact gr.d b o q n
    · rw [upd_ne (show b ≠ p from fun z => wp (by rw [← z]; exact w))]
      exact (B.M.nn iv w).1
/-- in a list that the def owns -/
theorem lci_o (j : Nat) {q0 : Option Addr} {ds : List D} {ifs : List Expr} (hr : ρ[j]? = some (.ow q0 (.lst ds))) (td : TgD B.X.K g put is) (hi : ∀ i ∈ is, i ∈ own.map (·.2))
    (hz : ds.length < sizeLine) (h : ∃ rs, All2 (LcTurn B scope (wipeR ρ (own.map (·.2))) put ifs elt) ds rs ∧ k (.lst (rs.filterMap id)))
    (hN : B.X.N[j]? = some x := by rfl) (hv : Vis B.X.env.scope x := by first | exact Or.inl rfl | exact Or.inr (Or.inl rfl) | exact Or.inr (Or.inr rfl)) (hd : (x == ("__debug__" : Str)) = false := by decide) (hcd : (x == ("__classdict__" : Str)) = false := by decide) :
    LcI B ρ tg (.Name x p) ifs elt scope own g k :=
  ⟨_, pi_list (pe_var hN hv hd hcd), fun σ H G s Q qf => by
    obtain ⟨q, o, e1, e2, gp, h0, hw, t, _⟩ := s.ow j _ _ hr
    cases t with
    | @lst xs _ ra =>
      obtain ⟨rs, h2, hk⟩ := h
      refine ⟨.ref q, e1, q, rfl, ⟨xs, SqL.of e2⟩, fun p hp => ?_⟩
      obtain ⟨Pv, p0, pS, pt, pd⟩ := lcG_inv s ra hp hz h2 hk td hi
      exact lc_list (K := B.X.K) (a := q) (xs := xs) (g := g) (tt := tIfs B.X scope ifs) (te := tWB B.X scope elt) (vs := own.map (·.2)) (σ := σ) Pv p0 (fun i H _ z => by
        obtain ⟨G', g'⟩ := pS i H z
        exact SqL.of (g'.h _ _ hw e2)) (fun i x H hx q => pt i x H hx q) fun H z => qf _ _ (pd H z)⟩
end
/-! ### isinstance and == of an own class -/
section
variable {B : Bx} {ρ : List En} {a b e : Expr} {k : D → Prop} {pos p : Pos} {x y : Str}
def oIsC (K : PySem.W.Frag) (C : Addr) (k : D → Prop) : D → Prop := fun d => (∃ fs ds, d = .ins C fs ds ∧ k (.bl true)) ∨ (∃ ds, d = .tup ds ∧ k (.bl false))
theorem tk_isC {C : Addr} {pT : Pos} (ic : InsC B.X.K C) (kt : PySem.W.kitOne B.X.K (.type "tuple") (.ref C) = some false) (hm : B.X.mg "isinstance" = none) (hmC : B.X.mg y = some (.ref C)) (h : Tk B ρ a (oIsC B.X.K C k)) (hg : Gl B.X "isinstance" := by rfl) (hgC : Gl B.X y := by rfl)
    (he : starEach (a :: [.Name y pT]) B.X.env = (false, eval a B.X.env) :: starEach [.Name y pT] B.X.env := by rfl) (he2 : starEach (.Name y pT :: []) B.X.env = (false, eval (.Name y pT) B.X.env) :: starEach [] B.X.env := by rfl)
    (hpl : (backTo pos (starEach [.Name y pT] B.X.env)).any (·.1) = false := by rfl) (hdb : (y == ("__debug__" : Str)) = false := by decide) : Tk B ρ (.Call (.Name "isinstance" p) [a, .Name y pT] [] pos) k :=
  Tk.of fun σ H G s => ⟨_, pe_callB (CallR.wk call_isi) hg hm boot_isinstance (pa_cons pe_W (pa_cons (pe_gc (v := .ref C) hgC ⟨_, hmC, rfl⟩ hdb) pa_nil he2) he) (by decide) (by decide) he hpl, h.te s fun v d G1 H1 g1 i1 r1 h1 => by
    have s1 := s.step g1 i1
    rcases h1 with ⟨fs, ds, rfl, hk⟩ | ⟨ds, rfl, hk⟩
    · obtain ⟨q, dx, kvs, rfl, ha, _⟩ := id r1.insI
      exact ⟨_, ⟨V.ref q, .ref C, .ref C, .ref C, true, rfl, .own C, .base (.ins (s1.gr.s _ _ ha) ic.cl ic.ha ic.hn ic.htk ic.hm), ic.me, .val s1.gr.s i1 (.bl true) hk⟩, fun v H' q => .back i1 g1 q⟩
    · exact ⟨_, ⟨v, .ref C, .type "tuple", .ref C, false, rfl, .own C, rep_ty s1.gr.s r1 rfl, kt, .val s1.gr.s i1 (.bl false) hk⟩, fun v H' q => .back i1 g1 q⟩⟩
/-- == by the own method -/
def oEqC (K : PySem.W.Frag) (C : Addr) {ι : Type} (Cc : ι → Prop) (A : ι → List D) (R : ι → Bool) : D → D → (D → Prop) → Prop := fun x y k =>
  (∃ fs ds, x = .ins C fs ds) ∧ ((∃ fs ds, y = .ins C fs ds) ∨ (∃ ds, y = .tup ds)) ∧ ∃ i, [x, y] = A i ∧ Cc i ∧ k (.bl (R i))
theorem tuple_looks {X : Cx} {pins : List (Addr × Obj)} {σ : L2.St} {H : Hp} {s : Shared} {M : Model} {a : Addr} {xs : List V} (I : Inv X pins σ H s) (h : SqT X.K H a xs) : PySem.W.Looks M s.heap (typeOf (.ref a)) (.type "tuple") := by
  obtain ⟨its, r, e, z⟩ := I.tuple h
  obtain ⟨o, e1, e2, _⟩ := e
  exact PySem.W.kitAt_ty M s.heap ⟨o, e1, e2⟩
theorem d_eqC {C : Addr} {ι : Type} {Cc : ι → Prop} {A : ι → List D} {R : ι → Bool} {n : Nat} (F : KnM B.X.prog B.X.w B.X.K B.X.mg B.X.base B.S "__eq__" n C (fun _ : ι => pur) Cc A (fun i d => d = .bl (R i)) (fun _ _ _ => False)) (nf : PySem.W.notFirst B.X.K C (.type "tuple") = true)
    (hu : B.X.A.units < cLine) {rm : Nat} (hr : Room rm B.X.A) (hrm : n ≤ rm := by decide) : OpD B (compareOp .Eq) (oEqC B.X.K C Cc A R) := fun x y k h v w G H e i rx ry pins σ s I v' w' r1 r2 => by
  obtain ⟨f, fd, ps, hm, hb, F1⟩ := F.ex
  obtain ⟨⟨fs, ds, rfl⟩, hy, j, ej, cj, hk⟩ := h
  obtain ⟨q, dx, kvs, rfl, ha, ek, ra⟩ := id rx.insI
  cases r1
  obtain ⟨mA, J, _⟩ := ins_get I.hok (e _ _ ha)
  obtain ⟨od, J, _⟩ := J.look
  obtain ⟨m, hF⟩ := I.fr
  show wpAny (model B.X.prog B.X.w) B.X.A (richCompare .Eq (.ref q) w') _ B.X.xe s
  have go : wpAny (model B.X.prog B.X.w) B.X.A (call (.ref f) [.ref q, w']) (PySem.W.CmpBack (EP B.X pins σ (Kd B G H k))) B.X.xe s := by
    have h2 : Spf B.X.K B.S (fun _ : ι => pur) Cc A (fun i d => d = .bl (R i)) (fun _ _ _ => False) [.ref q, w] H (fun v H' => ∃ b, v = .bl b ∧ Kd B G H k v H') E0 := by
      refine ⟨j, G, cj, e, trivial, ej ▸ .cons rx (.one ry), fun v d G' H' g j' r hR => ?_, fun c fs od G' H' g j' _ z => z.elim⟩
      subst hR
      obtain ⟨g', j2⟩ := (Sub.up (M := pur) (N := B.M) (.inl rfl) i g j')
      exact ⟨_, r.blI, _, G', g', j2, r, hk⟩
    refine thn (run_fnS (E := fun _ => E0) F1 (hr.mono hrm) hb (fun pins H s e s' I c => passX0 pins σ H s e s' I c) I (Paired.cons (show RelV (V.ref q) (Value.ref q) from rfl) (.cons r2 .nil)) h2) fun u s' ⟨v, H', I', rv, b, eb, hk⟩ => ?_
    subst eb
    cases (show u = Value.bool b from rv)
    exact ⟨.bl b, H', I', rfl, hk⟩
  rcases hy with ⟨fs2, ds2, rfl⟩ | ⟨ds2, rfl⟩
  · obtain ⟨q2, dx2, kvs2, rfl, ha2, _⟩ := id ry.insI
    cases r2
    obtain ⟨mB, J', _⟩ := ins_get I.hok (e _ _ ha2)
    obtain ⟨od', J', _⟩ := J'.look
    exact PySem.W.cmp_K (op := .Eq) (tb := .ref C) hu hF I.ok.mod.kin J J'.type (by simp [PySem.W.notFirst]) hm.at_ hm.fn go
  · obtain ⟨q2, xs2, rfl, hx2, _⟩ := id ry.tupI
    cases r2
    exact PySem.W.cmp_K (op := .Eq) (tb := .type "tuple") hu hF I.ok.mod.kin J (tuple_looks I (same_seqT e hx2)) nf hm.at_ hm.fn go
end
end Fz
/-! a class made where it may raise; {} -/
namespace Fz
open PySem PySem.Spec PyProof.Rows L2
section
variable {X : Cx} {CX : CXT} {k : Nat} {f C : Addr} {fd : FuncData} {ps : List Str} {sp : Sp} {E : L2.St → XK} {x : Str} {p pos : Pos} {e : Expr} {es : List Expr} {t : TA}
theorem run_makeS {pins : List (Addr × Obj)} {σ : L2.St} {H : Hp} {s : Shared} {Q : VK} {us : List Value} {vs : List V} (M : Mk X.K C f) (F : FnOk X.prog X.w X.K X.mg X.base CX k f fd ps sp) (hr : Room (k + 1) X.A) (hb : Binds X.K fd ps [])
    (hx : PassesAt CX X σ (E σ)) (I : Inv X pins σ H s) (r : Vals vs us)
    (h : ∀ x dx, H x = none → H dx = none → dx ≠ x → sp (.ref x :: vs) (upd (upd H dx (.own x)) x (.ins C dx [])) (fun v H2 => v = .non ∧ Q (.ref x) H2) (E σ)) :
    wpAny (model X.prog X.w) X.A (call (.ref C) us) (EP X pins σ Q) X.xe s := by
  have hq := h (s.heap.objs.size + 1) s.heap.objs.size (I.hok.fresh (Nat.le_succ _)) (I.hok.fresh (Nat.le_refl _)) (Nat.ne_of_lt (Nat.lt_succ_self _))
  have I2 := Inv.made (C := C) I
  have r2 : Vals (V.ref (s.heap.objs.size + 1) :: vs) (Value.ref (s.heap.objs.size + 1) :: us) := .cons rfl r
  have hl : (Value.ref (s.heap.objs.size + 1) :: us ++ []).length = ps.length := by
    have e := r2.length
    rw [F.len _ _ _ _ hq] at e
    rw [List.append_nil]
    exact e.symm
  have b := hb _ (Value.ref (s.heap.objs.size + 1) :: us) I2.kIn hl
  rw [List.append_nil] at b
  refine wpAny_call (make_map (f := f) I.kIn M.makes M.init (beq_iff_eq.mp M.fn) (codeAny_mono (F.run _ X.stack _ _ ⟨Value.ref (s.heap.objs.size + 1) :: us, []⟩ (Value.ref (s.heap.objs.size + 1) :: us) _ _ (E σ) (hr.make C us [])
    (I2.env0.make C us []) b r2 hq) fun r s' hq' => ?_))
  cases r with
  | error e => exact hx pins _ _ e s' I2 hq'
  | ok fl =>
    cases fl with
    | ret u =>
      obtain ⟨v, H', I3, rv, ev, q3⟩ := I2.after hq'
      subst ev
      exact ⟨rv, ⟨V.ref (s.heap.objs.size + 1), H', I3, rfl, q3⟩⟩
    | next => exact False.elim hq'
    | brk => exact False.elim hq'
    | cont => exact False.elim hq'
def tMakeS (C : Addr) (sp : Sp) (E : L2.St → XK) (t : TA) : TE := fun σ H Q => t σ H fun vs H1 => ∀ x dx, H1 x = none → H1 dx = none → dx ≠ x → sp (.ref x :: vs) (upd (upd H1 dx (.own x)) x (.ins C dx [])) (fun v H2 => v = .non ∧ Q (.ref x) H2) (E σ)
theorem pe_makeS (M : Mk X.K C f) (F : FnOk X.prog X.w X.K X.mg X.base CX k f fd ps sp) (hr : Room (k + 1) X.A) (hg : Gl X x) (hm : X.mg x = some (.ref C)) (hb : Binds X.K fd ps []) (hx : ∀ σ, PassesAt CX X σ (E σ))
    (ha : PA X (e :: es) t) (hdb : (x == ("__debug__" : Str)) = false := by decide) (he : starEach (e :: es) X.env = (false, eval e X.env) :: starEach es X.env := by rfl) (hpl : (backTo pos (starEach es X.env)).any (·.1) = false := by rfl) :
    PE X (.Call (.Name x p) (e :: es) [] pos) (tMakeS C sp E t) := by
  refine ⟨fun pins s σ H Q I h => ?_⟩
  refine wpAny_Call_Name_kw (ld_glob I hg hm ?_ hdb)
  refine PySem.W.callWith_K (h₀ := X.base) I.ok.mod.kin M.kp (thn (ha.run pos pins s σ H _ I h) fun us s1 ⟨vs, H1, I1, r, q⟩ => ⟨I1.kIn, ?_⟩) he hpl
  exact run_makeS M F hr hb (hx σ) I1 r q
end
section
variable {B : Bx} {ρ : List En} {a b c e : Expr} {es : List Expr} {k : D → Prop} {x y z : Str} {pos p p' : Pos}
/-- C(e, ..) that may raise -/
theorem tk_makeX {C : Addr} {ι : Type} {Cc V : ι → Prop} {A : ι → List D} {R : ι → D} {XR : ι → Addr → List (Str × D) → Prop} {YR : Addr → List (Str × D) → Prop} {n : Nat} (F : KnC B.X.prog B.X.w B.X.K B.X.mg B.X.base B.S x n C Cc V A R XR) {rm : Nat} (hr : Room rm B.X.A) (rz : Rz B ρ YR)
    (h : Ta B ρ (e :: es) fun ds => ∃ i, ds = A i ∧ Cc i ∧ (∀ c fs, XR i c fs → YR c fs) ∧ (V i → k (R i))) (hg : Gl B.X x := by rfl)
    (hdb : (x == ("__debug__" : Str)) = false := by decide) (he : starEach (e :: es) B.X.env = (false, eval e B.X.env) :: starEach es B.X.env := by rfl) (hpl : (backTo pos (starEach es B.X.env)).any (·.1) = false := by rfl) (hrm : n + 1 ≤ rm := by decide) :
    Tk B ρ (.Call (.Name x p) (e :: es) [] pos) k := by
  obtain ⟨fI, fd, ps, hm, M, hb, FI⟩ := F.ex
  obtain ⟨W, tk, hW⟩ := rz
  refine Tk.of fun σ H G s => ?_
  refine ⟨_, pe_makeS (E := WE W) M FI (hr.mono hrm) hg hm hb (passAt tk) pa_W hdb he hpl, h.ta s fun vs ds G1 H1 g1 i1 r1 h1 => ?_⟩
  obtain ⟨i, rfl, ci, nx, q⟩ := h1
  have s1 := s.step g1 i1
  intro a dx na ndx ne
  have ga : G1 a = none := s1.gr.s.free na
  have h2a : upd (upd H1 dx (.own a)) a (.ins C dx []) a = some (.ins C dx []) := upd_same
  have keep : ∀ b o, H1 b = some o → upd (upd H1 dx (.own a)) a (.ins C dx []) b = some o := fun b o hb' => by
    rw [upd_ne (ne_of_none hb' na), upd_ne (ne_of_none hb' ndx)]
    exact hb'
  have wa : ¬ B.M.W a := s1.noW na
  refine ⟨i, G1, a, dx, vs, ci, same_upd2 s1.gr.s ndx na, ga, h2a, rfl, r1, fun hV o G' H' gg ss kk dd ho ht => ⟨rfl, ?_⟩, fun c fs od G' H' gg ss kk dd hX z => ?_⟩
  · have g'a : G' a = none := dd a _ h2a ga
    have hG : Same G' (upd G' a o) := same_new g'a
    have hS : Same (upd G' a o) H' := fun b u e => by
      by_cases hb' : b = a
      · subst hb'; rw [upd_same] at e; cases e; exact ho
      · rw [upd_ne hb'] at e; exact ss b u e
    have g2 : Gr B.M.W G1 H1 (upd G' a o) H' := ⟨gg.trans hG, hS, fun b u _ e => kk b u (ne_of_none e na) (keep b u e), fun b u e n => by
      rw [upd_ne (ne_of_none e na)]
      exact dd b u (keep b u e) n⟩
    have i2 : B.M.I (upd G' a o) H' := B.M.st i1 (gg.trans hG) hS (fun b w => by
      obtain ⟨n, u, e⟩ := B.M.nn i1 w
      exact g2.d b u e n) fun b u w e => kk b u (ne_of_none e na) (keep b u e)
    exact .back i1 g1 ⟨_, _, g2, i2, .obj upd_same (ht.mono hG), q hV⟩
  · have g2 : Gr B.M.W G1 H1 G' H' := ⟨gg, ss, fun b u _ e => kk b u (ne_of_none e na) (keep b u e), fun b u e n => dd b u (ne_of_none e na) (keep b u e) n⟩
    have i2 : B.M.I G' H' := B.M.st i1 gg ss (fun b w => by
      obtain ⟨n, u, e⟩ := B.M.nn i1 w
      exact g2.d b u e n) fun b u w e => kk b u (ne_of_none e na) (keep b u e)
    exact hW c fs od σ H' G' (s1.step g2 i2) hX (nx c fs z)
/-- isinstance of an own class, by the written part -/
theorem kit_pair {K : PySem.W.Frag} {t : Value} {C : Addr} {b : Bool} (h1 : (t == Value.ref C) = false) (h2 : PySem.W.isClsIn K C = true) (h3 : PySem.W.typeIn K (.ref C) = some (.type "type")) (h4 : PySem.W.subIn K t (.ref C) = some b) : PySem.W.kitOne K t (.ref C) = some b := by
  have e2 : ((PySem.W.clsIn K C).isSome && PySem.W.typeIn K (.ref C) == some (.type "type")) = true := by
    have h2' : (PySem.W.clsIn K C).isSome = true := h2
    rw [h2', h3]; rfl
  unfold PySem.W.kitOne
  rw [h1, if_neg Bool.false_ne_true]
  show (if ((PySem.W.clsIn K C).isSome && PySem.W.typeIn K (.ref C) == some (.type "type")) = true then PySem.W.subIn K t (.ref C) else none) = some b
  rw [if_pos e2]
  exact h4
/-- {} -/
theorem tk_dic0 (h : k (.dct [] [])) : Tk B ρ (.Dict [] [] pos) k := Tk.of fun σ H G s =>
  ⟨_, pe_dnewK, fun p n => .new s.gr.s s.inv n (.dct rfl rfl .nil) h⟩
end
end Fz
/-! own lists: list(e); a pair stored, the first a new own list -/
namespace Fz
open PySem PySem.Spec PyProof.Rows L2
section
variable {B : Bx} {ρ : List En} {a b c e : Expr} {es : List Expr} {k : D → Prop} {x y z : Str} {pos p p' p'' : Pos} {rest : List Stmt} {D0 : Ed}
/-- name = list(e): a new one, the def's own -/
theorem s_ownLs (i : Nat) {cp : Pos} (hm : B.X.mg "list" = none) (h : Tk B ρ a (kItems fun ds => Tss B (ρ.set i (.own (.lst ds))) rest D0)) (hN : B.X.N.Nodup) (hi : B.X.N[i]? = some x := by rfl) (hx : Loc B.X.env.scope x := by first | exact .inl rfl | exact .inr rfl)
    (hs : swapsWith (.Call (.Name "list" p) [a] [] cp) (some (.Name x p')) pos.line B.X.env = pure false := by rfl) (hf : B.X.fn x = true ∨ B.X.env.scope.names.lookup x = some .local := by first | exact .inl rfl | exact .inr rfl)
    (hg : Gl B.X "list" := by rfl) (he : starEach (a :: []) B.X.env = (false, eval a B.X.env) :: starEach [] B.X.env := by rfl) (hpl : (backTo cp (starEach [] B.X.env)).any (·.1) = false := by rfl) :
    Tss B ρ (.Assign [.Name x p'] (.Call (.Name "list" p) [a] [] cp) pos :: rest) D0 := Tss.of fun kp σ H G s g =>
  ⟨_, ps_set hN hi hx (pe_callTy call_list_of hg hm PySem.Pv.boot_list (pa_cons pe_W pa_nil he) (by decide) (by decide) he hpl) hs hf, h.te s fun v d G' H' g' i' r' h' => by
    obtain ⟨q, xs, es, rfl, ha, ra, hf⟩ := kItems_of r' h'
    have s1 := s.step g' i'
    exact ⟨q, xs, rfl, ha.imp (Same.seq s1.gr.s) (same_seqT s1.gr.s), fun l n => hf kp _ _ G' (s1.putOwn n (.lst ra)) (g.trans g'.g)⟩⟩
/-- x, y = [..], e: x's list the def's own -/
theorem s_parO (i j : Nat) {lp : Pos} {kt kk pt2 pt} (h : Ta B ρ es fun ds => ds.length ≤ sizeLine ∧ Tk B ρ a fun d => Tss B ((ρ.set i (.own (.lst ds))).set j (.val d)) rest D0) (hc : B.X.calm = true) (hN : B.X.N.Nodup) (hij : i ≠ j := by decide) (hi : B.X.N[i]? = some x := by rfl) (hj : B.X.N[j]? = some y := by rfl)
    (hx : B.X.env.scope.names.lookup x = some .local := by rfl) (hy : B.X.env.scope.names.lookup y = some .local := by rfl)
    (hw : swappedStores [.Tuple [.Name x p', .Name y p''] kt pt] (.Tuple [.List es lp, a] kk pt2) B.X.env = pure (some [x, y]) := by rfl)
    (hs : swapsWithSole [.Tuple [.Name x p', .Name y p''] kt pt] (.Tuple [.List es lp, a] kk pt2) pos.line B.X.env = pure false := by rfl)
    (he : starEach [.List es lp, a] B.X.env = (false, eval (.List es lp) B.X.env) :: starEach [a] B.X.env := by rfl) (he2 : starEach [a] B.X.env = (false, eval a B.X.env) :: starEach [] B.X.env := by rfl) :
    Tss B ρ (.Assign [.Tuple [.Name x p', .Name y p''] kt pt] (.Tuple [.List es lp, a] kk pt2) pos :: rest) D0 := Tss.of fun kp σ H G s g =>
  ⟨_, ps_par hc hN hi hj hij hx hy (pa_cons (pe_lst pa_W) (pa_cons pe_W pa_nil he2) he) hw hs, h.ta s fun vs ds G1 H1 g1 i1 r1 h1 => ⟨by rw [r1.length]; exact h1.1, fun q n => by
    have s1 := s.step g1 i1
    obtain ⟨gb, ib⟩ := s1.beside (o := .lst vs) n
    have s1b := s1.step gb ib
    have gq : G1 q = none := s1.gr.s.free n
    have wq := s1.noW n
    refine h1.2.te s1b fun v d G2 H2 g2 i2 r2 h2 => ?_
    refine ⟨.ref q, v, rfl, ?_⟩
    have s2 := s1b.step g2 i2
    have hq2 : H2 q = some (.lst vs) := g2.h q _ wq upd_same
    have gq2 : G2 q = none := g2.d q _ upd_same gq
    exact h2 kp _ _ G2 ((s1.putAt (i := i) n s2 hq2 gq2 (.lst (r1.mono g2.g))).put r2) ((g.trans g1.g).trans g2.g)⟩⟩
end
end Fz
namespace Fz
/-! chances of small tables: their sizes -/
theorem lastQ_szk {r : Rat} (h : R9 r) {n k : Nat} (h1 : 1 ≤ n) (hn : n ≤ k) : ∀ q ∈ lastQ r n, QSz (12 * k + 21) q := fun q hq => by
  unfold lastQ at hq
  split at hq
  · rw [List.mem_singleton] at hq
    subst hq
    exact QSz.one.mono (by omega)
  · rcases List.mem_cons.mp hq with rfl | hq
    · exact QSz.zero.mono (by omega)
    · rw [List.mem_reverse] at hq
      obtain ⟨j, hj, rfl⟩ := List.mem_map.mp hq
      have hj := List.mem_range.mp hj
      exact (partQ_szk h (a := 1) (b := n - 1) (k := k) (by omega) (by omega) (by omega)).mul (h.powS (k := k) (by omega)) (by omega)
/-- the chance of some last seats -/
def chQ (q : Rat) (n : Nat) (seats : List Nat) : Rat := seats.foldl (fun c s => c * (lastQ q n).getD s 0) 1
theorem chQ_snoc (q : Rat) (n : Nat) (ss : List Nat) (s : Nat) : chQ q n (ss ++ [s]) = chQ q n ss * (lastQ q n).getD s 0 := by
  unfold chQ
  rw [List.foldl_append]
  rfl
theorem chQ_sz {q : Rat} (h : R9 q) {n k : Nat} (h1 : 1 ≤ n) (hn : n ≤ k) : ∀ (m : Nat) (ss : List Nat), ss.length = m → QSz ((12 * k + 21) * m + 1) (chQ q n ss)
  | 0, ss, hl => by
    obtain rfl := List.length_eq_zero_iff.mp hl
    exact QSz.one.mono (by omega)
  | m + 1, ss, hl => by
    obtain ⟨s0, s, rfl⟩ : ∃ s0 s, ss = s0 ++ [s] := by
      have hne : ss ≠ [] := fun z => by rw [z] at hl; cases hl
      exact ⟨ss.dropLast, ss.getLast hne, (List.dropLast_concat_getLast hne).symm⟩
    rw [List.length_append] at hl
    have hl2 : s0.length = m := Nat.succ.inj hl
    rw [chQ_snoc]
    have e : QSz (12 * k + 21) ((lastQ q n).getD s 0) := by
      rw [List.getD_eq_getElem?_getD]
      cases e : (lastQ q n)[s]? with
      | none => exact QSz.zero.mono (by omega)
      | some x => exact lastQ_szk h h1 hn x (List.mem_of_getElem? e)
    exact (chQ_sz h h1 hn m s0 hl2).mul e (by rw [Nat.mul_succ]; omega)
end Fz
namespace Fz
/-! k11: forms -/
def lcmF (qs : List Rat) : Nat := qs.foldl (fun p q => p / p.gcd q.den * q.den) 1
def rowF (P : Nat) (qs : List Rat) : List Int := qs.map fun q => q.num * ((P : Int) / (q.den : Int))
def gcdF (xs : List Int) : Nat := xs.foldl (fun g x => (g : Int).gcd x) 0
def formF (qs : List Rat) : List Int :=
  (rowF (lcmF qs) qs).map fun x => x.fdiv (if (rowF (lcmF qs) qs).getD 2 0 < 0 then -(gcdF (rowF (lcmF qs) qs) : Int) else (gcdF (rowF (lcmF qs) qs) : Int))
theorem lcmF_snoc (qs : List Rat) (q : Rat) : lcmF (qs ++ [q]) = lcmF qs / (lcmF qs).gcd q.den * q.den := by
  unfold lcmF
  rw [List.foldl_append]
  rfl
theorem gcdF_snoc (xs : List Int) (x : Int) : gcdF (xs ++ [x]) = (gcdF xs : Int).gcd x := by
  unfold gcdF
  rw [List.foldl_append]
  rfl
theorem lcm_eq (p d : Nat) : p / p.gcd d * d = p.lcm d := by
  unfold Nat.lcm
  rw [Nat.div_mul_right_comm (Nat.gcd_dvd_left p d)]
theorem snocOf {α : Type} {xs : List α} {n : Nat} (h : xs.length = n + 1) : ∃ x, xs = xs.dropLast ++ [x] := by
  have hn : xs ≠ [] := fun z => by rw [z] at h; cases h
  exact ⟨xs.getLast hn, (List.dropLast_concat_getLast hn).symm⟩
theorem lcmF_all (n : Nat) : ∀ qs : List Rat, qs.length = n → 0 < lcmF qs ∧ ∀ q ∈ qs, q.den ∣ lcmF qs := by
  induction n with
  | zero =>
    intro qs h
    rw [List.length_eq_zero_iff.mp h]
    exact ⟨by decide, fun q h => by cases h⟩
  | succ n ih =>
    intro qs h
    obtain ⟨q0, hq0⟩ := snocOf h
    obtain ⟨i1, i2⟩ := ih qs.dropLast (by rw [List.length_dropLast, h]; rfl)
    rw [hq0, lcmF_snoc, lcm_eq]
    refine ⟨Nat.lcm_pos i1 q0.den_pos, fun q hq => ?_⟩
    rcases List.mem_append.mp hq with z | z
    · exact Nat.dvd_trans (i2 q z) (Nat.dvd_lcm_left _ _)
    · rw [List.mem_singleton.mp z]
      exact Nat.dvd_lcm_right _ _
theorem lcmF_pos (qs : List Rat) : 0 < lcmF qs := (lcmF_all _ qs rfl).1
theorem lcmF_dvd {qs : List Rat} {q : Rat} (h : q ∈ qs) : q.den ∣ lcmF qs := (lcmF_all _ qs rfl).2 q h
theorem lcmF_sz {a : Nat} (n : Nat) : ∀ qs : List Rat, qs.length = n → (∀ q ∈ qs, QSz a q) → lcmF qs < 2 ^ (a * n + 1) := by
  induction n with
  | zero =>
    intro qs h _
    rw [List.length_eq_zero_iff.mp h]
    rw [Nat.mul_zero]
    decide
  | succ n ih =>
    intro qs h hq
    obtain ⟨q0, hq0⟩ := snocOf h
    have i1 := ih qs.dropLast (by rw [List.length_dropLast, h]; rfl) fun q h => hq q ((List.dropLast_sublist _).subset h)
    have i2 := (hq q0 (by rw [hq0]; exact List.mem_append_right _ (List.mem_singleton.mpr rfl))).2
    rw [hq0, lcmF_snoc]
    generalize lcmF qs.dropLast = p at i1 ⊢
    have i3 : p / p.gcd q0.den ≤ p := Nat.div_le_self _ _
    have i4 : p / p.gcd q0.den * q0.den ≤ p * q0.den := Nat.mul_le_mul_right _ i3
    have i5 : p * q0.den < 2 ^ (a * n + 1) * 2 ^ a := Nat.mul_lt_mul'' i1 i2
    rw [← Nat.pow_add] at i5
    rw [show a * (n + 1) + 1 = a * n + 1 + a by rw [Nat.mul_succ]; omega]
    omega
theorem row_val {P : Nat} {q : Rat} (h : q.den ∣ P) : ((q.num * ((P : Int) / (q.den : Int)) : Int) : Rat) = q * (P : Rat) := by
  obtain ⟨c, rfl⟩ := h
  have hd : (q.den : Int) ≠ 0 := by have := q.den_pos; omega
  rw [Int.natCast_mul, Int.mul_ediv_cancel_left _ hd, Rat.intCast_mul, Rat.natCast_mul]
  have e : q * (q.den : Rat) = (q.num : Rat) := by
    have h1 : (q.num : Rat) / (q.den : Rat) = q := by
      have := Rat.divInt_eq_div q.num (q.den : Int)
      rw [Rat.num_divInt_den] at this
      exact this.symm
    have h2 : (q.den : Rat) ≠ 0 := by rw [Ne, Rat.natCast_eq_zero_iff]; exact q.den_nz
    grind
  have : ((c : Int) : Rat) = (c : Rat) := rfl
  rw [this, ← Rat.mul_assoc, e]
theorem gcdF_dvd (n : Nat) : ∀ xs : List Int, xs.length = n → ∀ x ∈ xs, (gcdF xs : Int) ∣ x := by
  induction n with
  | zero =>
    intro xs h x hx
    rw [List.length_eq_zero_iff.mp h] at hx
    cases hx
  | succ n ih =>
    intro xs h x hx
    obtain ⟨x0, hx0⟩ := snocOf h
    have i1 := ih xs.dropLast (by rw [List.length_dropLast, h]; rfl)
    rw [hx0] at hx
    rw [hx0, gcdF_snoc]
    rcases List.mem_append.mp hx with z | z
    · exact Int.dvd_trans (Int.gcd_dvd_left ..) (i1 x z)
    · rw [List.mem_singleton.mp z]
      exact Int.gcd_dvd_right ..
theorem gcdF_scale (s : Int) (ys : List Int) : ∀ g : Nat, (ys.map (· * s)).foldl (fun (g : Nat) (x : Int) => (g : Int).gcd x) (g * s.natAbs) = (ys.foldl (fun (g : Nat) (x : Int) => (g : Int).gcd x) g) * s.natAbs := by
  induction ys with
  | nil => intro g; rfl
  | cons y ys ih =>
    intro g
    show List.foldl _ (Int.gcd (((g * s.natAbs : Nat)) : Int) (y * s)) _ = _
    have e : Int.gcd (((g * s.natAbs : Nat)) : Int) (y * s) = (g : Int).gcd y * s.natAbs := by
      unfold Int.gcd
      rw [Int.natAbs_natCast, Int.natAbs_mul, Nat.gcd_mul_right, Int.natAbs_natCast]
    rw [e]
    exact ih _
theorem gcd_szM {a : Nat} {x y : Int} (hx : Sz a x) (hy : Sz a y) : Sz a ((x.gcd y : Nat) : Int) := by
  unfold Sz at *
  rw [Int.natAbs_natCast]
  unfold Int.gcd
  by_cases h : y.natAbs = 0
  · rw [h, Nat.gcd_zero_right]
    exact hx
  · exact Nat.lt_of_le_of_lt (Nat.le_of_dvd (by omega) (Nat.gcd_dvd_right _ _)) hy
theorem gcdF_sz {a : Nat} (n : Nat) : ∀ xs : List Int, xs.length = n → (∀ x ∈ xs, Sz a x) → Sz a (gcdF xs : Int) := by
  induction n with
  | zero =>
    intro xs h _
    rw [List.length_eq_zero_iff.mp h]
    show 0 < 2 ^ a
    exact Nat.two_pow_pos a
  | succ n ih =>
    intro xs h hx
    obtain ⟨x0, hx0⟩ := snocOf h
    have i1 := ih xs.dropLast (by rw [List.length_dropLast, h]; rfl) fun x h => hx x ((List.dropLast_sublist _).subset h)
    have i2 := hx x0 (by rw [hx0]; exact List.mem_append_right _ (List.mem_singleton.mpr rfl))
    rw [hx0, gcdF_snoc]
    exact gcd_szM i1 i2
/-- a form in its least numbers: the four are as the fractions, but for one factor -/
theorem formF_ok {q0 q1 q2 q3 : Rat} (h2 : q2 ≠ 0) : ∃ (a b c d : Int) (κ : Rat), formF [q0, q1, q2, q3] = [a, b, c, d] ∧ κ ≠ 0 ∧ (a : Rat) = q0 * κ ∧ (b : Rat) = q1 * κ ∧ (c : Rat) = q2 * κ ∧ (d : Rat) = q3 * κ ∧ 0 < c ∧ gcdF [a, b, c, d] = 1 := by
  obtain ⟨qs, hqs⟩ : ∃ qs, qs = [q0, q1, q2, q3] := ⟨_, rfl⟩
  obtain ⟨P, hP⟩ : ∃ P, P = lcmF qs := ⟨_, rfl⟩
  have P0 : 0 < P := by rw [hP]; exact lcmF_pos qs
  have PR : (P : Rat) ≠ 0 := by rw [Ne, Rat.natCast_eq_zero_iff]; omega
  obtain ⟨x0, e0⟩ : ∃ x, x = q0.num * ((P : Int) / (q0.den : Int)) := ⟨_, rfl⟩
  obtain ⟨x1, e1⟩ : ∃ x, x = q1.num * ((P : Int) / (q1.den : Int)) := ⟨_, rfl⟩
  obtain ⟨x2, e2⟩ : ∃ x, x = q2.num * ((P : Int) / (q2.den : Int)) := ⟨_, rfl⟩
  obtain ⟨x3, e3⟩ : ∃ x, x = q3.num * ((P : Int) / (q3.den : Int)) := ⟨_, rfl⟩
  have hd : ∀ q ∈ qs, q.den ∣ P := fun q h => by rw [hP]; exact lcmF_dvd h
  have v0 : (x0 : Rat) = q0 * (P : Rat) := by rw [e0]; exact row_val (hd q0 (by rw [hqs]; simp))
  have v1 : (x1 : Rat) = q1 * (P : Rat) := by rw [e1]; exact row_val (hd q1 (by rw [hqs]; simp))
  have v2 : (x2 : Rat) = q2 * (P : Rat) := by rw [e2]; exact row_val (hd q2 (by rw [hqs]; simp))
  have v3 : (x3 : Rat) = q3 * (P : Rat) := by rw [e3]; exact row_val (hd q3 (by rw [hqs]; simp))
  have hrow : rowF (lcmF qs) qs = [x0, x1, x2, x3] := by rw [← hP, hqs, e0, e1, e2, e3]; rfl
  have x2ne : x2 ≠ 0 := fun z => by
    rw [z] at v2
    have : q2 * (P : Rat) = 0 := v2.symm
    rcases Rat.mul_eq_zero.mp this with z | z
    · exact h2 z
    · exact PR z
  obtain ⟨g, hg⟩ : ∃ g, g = gcdF [x0, x1, x2, x3] := ⟨_, rfl⟩
  have gd : ∀ x ∈ [x0, x1, x2, x3], (g : Int) ∣ x := by rw [hg]; exact gcdF_dvd _ _ rfl
  have g0 : g ≠ 0 := fun z => by
    have := gd x2 (by simp)
    rw [z] at this
    exact x2ne (Int.zero_dvd.mp this)
  obtain ⟨s, hs⟩ : ∃ s : Int, s = if x2 < 0 then -(g : Int) else (g : Int) := ⟨_, rfl⟩
  have s0 : s ≠ 0 := by rw [hs]; split <;> omega
  have sabs : s.natAbs = g := by rw [hs]; split <;> omega
  have sd : ∀ x ∈ [x0, x1, x2, x3], s ∣ x := fun x hx => by
    have := gd x hx
    rw [hs]
    split
    · exact Int.neg_dvd.mpr this
    · exact this
  have hform : formF qs = [x0.fdiv s, x1.fdiv s, x2.fdiv s, x3.fdiv s] := by
    unfold formF
    rw [hrow, ← hg]
    show [x0.fdiv (if x2 < 0 then _ else _), x1.fdiv _, x2.fdiv _, x3.fdiv _] = _
    rw [hs]
    rfl
  have mk : ∀ x ∈ [x0, x1, x2, x3], x.fdiv s * s = x := fun x hx => by
    rw [Int.fdiv_eq_ediv_of_dvd (sd x hx)]
    exact Int.ediv_mul_cancel (sd x hx)
  have m0 := mk x0 (by simp)
  have m1 := mk x1 (by simp)
  have m2 := mk x2 (by simp)
  have m3 := mk x3 (by simp)
  rw [← hqs, hform]
  obtain ⟨y0, f0⟩ : ∃ y, y = x0.fdiv s := ⟨_, rfl⟩
  obtain ⟨y1, f1⟩ : ∃ y, y = x1.fdiv s := ⟨_, rfl⟩
  obtain ⟨y2, f2⟩ : ∃ y, y = x2.fdiv s := ⟨_, rfl⟩
  obtain ⟨y3, f3⟩ : ∃ y, y = x3.fdiv s := ⟨_, rfl⟩
  rw [← f0, ← f1, ← f2, ← f3]
  rw [← f0] at m0
  rw [← f1] at m1
  rw [← f2] at m2
  rw [← f3] at m3
  have sR : (s : Rat) ≠ 0 := fun z => s0 (Rat.intCast_eq_zero_iff.mp z)
  have vv : ∀ {x y : Int} {q : Rat}, (x : Rat) = q * (P : Rat) → y * s = x → (y : Rat) = q * ((P : Rat) / (s : Rat)) := fun {x y q} h1 h2 => by
    have h3 : (y : Rat) * (s : Rat) = q * (P : Rat) := by rw [← h1, ← h2, Rat.intCast_mul]
    grind
  refine ⟨y0, y1, y2, y3, (P : Rat) / (s : Rat), rfl, ?_, vv v0 m0, vv v1 m1, vv v2 m2, vv v3 m3, ?_, ?_⟩
  · grind
  · rcases Int.lt_or_le x2 0 with z | z
    · have es : s = -(g : Int) := by rw [hs, if_pos z]
      have sn : s < 0 := by omega
      rcases Int.lt_or_le 0 y2 with w | w
      · exact w
      · have := Int.mul_nonneg_of_nonpos_of_nonpos w (Int.le_of_lt sn)
        omega
    · have es : s = (g : Int) := by rw [hs, if_neg (by omega)]
      have sn : 0 < s := by omega
      rcases Int.lt_or_le 0 y2 with w | w
      · exact w
      · have := Int.mul_nonpos_of_nonpos_of_nonneg w (Int.le_of_lt sn)
        omega
  · have e := gcdF_scale s [y0, y1, y2, y3] 0
    rw [Nat.zero_mul] at e
    have e2 : List.map (· * s) [y0, y1, y2, y3] = [x0, x1, x2, x3] := by
      show [y0 * s, y1 * s, y2 * s, y3 * s] = _
      rw [m0, m1, m2, m3]
    rw [e2] at e
    have e3 : g = gcdF [y0, y1, y2, y3] * g := by
      have : gcdF [x0, x1, x2, x3] = gcdF [y0, y1, y2, y3] * s.natAbs := e
      rw [sabs, ← hg] at this
      exact this
    have : 1 * g = gcdF [y0, y1, y2, y3] * g := by rw [Nat.one_mul]; exact e3
    exact (Nat.eq_of_mul_eq_mul_right (Nat.pos_of_ne_zero g0) this).symm
/-- the raw forms of a seat to the right and of one to the left -/
def rForm (q : Rat) (j : Nat) : List Rat := if q = 1 then [1, 0, -1, 1] else [0, (1 - q) * (1 / q) ^ (j + 1), 1, 0 - 1 / q]
def lForm (q : Rat) (b : Nat) : List Rat := if q = 1 then [1, 0, -1, 1] else [(1 - q) * q ^ (b - 1), 0, 1, 0 - 1 / q]
def xQ (q : Rat) (n : Nat) : Rat := if q = 1 then (n : Rat) else q ^ n
/-- four numbers tell a chance with so many seats -/
def Tells (a b c d : Int) (q : Rat) (n : Nat) (v : Rat) : Prop := (c : Rat) + (d : Rat) * xQ q n ≠ 0 ∧ ((a : Rat) + (b : Rat) * xQ q n) / ((c : Rat) + (d : Rat) * xQ q n) = v
theorem tells_of {a b c d : Int} {q : Rat} {n : Nat} {N D κ : Rat} (k0 : κ ≠ 0) (hD : D ≠ 0) (e1 : (a : Rat) + (b : Rat) * xQ q n = N * κ) (e2 : (c : Rat) + (d : Rat) * xQ q n = D * κ) : Tells a b c d q n (N / D) := by
  have h : D * κ ≠ 0 := fun z => by
    rcases Rat.mul_eq_zero.mp z with z | z
    · exact hD z
    · exact k0 z
  unfold Tells
  rw [e1, e2]
  refine ⟨h, ?_⟩
  grind
theorem R9.inv {q : Rat} (h : R9 q) : R9 (1 / q) := by
  have h0 := h.pos
  have e : (1 : Rat) / q = q⁻¹ := by rw [Rat.div_def, Rat.one_mul]
  have hp : 0 < q.num := by
    rcases Int.lt_or_le 0 q.num with z | z
    · exact z
    · have := Rat.num_nonneg (q := q)
      have h1 : (0 : Rat) ≤ q := Rat.le_of_lt h0
      have h2 : 0 ≤ q.num := this.mpr h1
      have h3 : q.num = 0 := by omega
      rw [Rat.num_eq_zero.mp h3] at h0
      exact absurd h0 (by decide)
  refine ⟨?_, ?_, ?_⟩
  · rw [e]
    exact Rat.inv_pos.mpr h0
  · rw [e, Rat.num_inv, Int.natAbs_mul, Int.natAbs_natCast, Int.sign_eq_one_of_pos hp]
    have := h.den
    show (1 : Int).natAbs * q.den ≤ 9
    show 1 * q.den ≤ 9
    omega
  · rw [e, Rat.den_inv, if_neg (by omega)]
    exact h.num
theorem part_ne {q : Rat} (h : q ≠ 1) (m : Nat) : partQ q 1 m = (1 - q) / (1 - q ^ m) := by
  unfold partQ
  rw [if_neg h, Rat.pow_one]
theorem part_one (m : Nat) : partQ 1 1 m = 1 / (m : Rat) := by
  unfold partQ
  rw [if_pos rfl]
  rfl
theorem one_pow' : ∀ m : Nat, (1 : Rat) ^ m = 1
  | 0 => Rat.pow_zero _
  | m + 1 => by rw [Rat.pow_succ, one_pow' m, Rat.one_mul]
theorem q_pow_add (q : Rat) (a : Nat) : ∀ b : Nat, q ^ (a + b) = q ^ a * q ^ b
  | 0 => by rw [Rat.pow_zero, Rat.mul_one]; rfl
  | b + 1 => by rw [← Nat.add_assoc, Rat.pow_succ, Rat.pow_succ, q_pow_add q a b, Rat.mul_assoc]
theorem pow_cancel {q : Rat} (h : q ≠ 0) : ∀ m : Nat, (1 / q) ^ m * q ^ m = 1
  | 0 => by rw [Rat.pow_zero, Rat.pow_zero, Rat.mul_one]
  | m + 1 => by
    have ih := pow_cancel h m
    rw [Rat.pow_succ, Rat.pow_succ]
    grind
theorem lastQ_getD {q : Rat} {n j : Nat} (h1 : 1 ≤ j) (h2 : j < n) : (lastQ q n).getD j 0 = partQ q 1 (n - 1) * q ^ (n - 1 - j) := by
  rw [List.getD_eq_getElem?_getD, lastQ_at h1 h2]
  rfl
theorem one_tells {n : Nat} (h : 2 ≤ n) {q : Rat} (hq : q = 1) {κ : Rat} (k0 : κ ≠ 0) {a b c d : Int} (ha : (a : Rat) = 1 * κ) (hb : (b : Rat) = 0 * κ) (hc : (c : Rat) = -1 * κ) (hd : (d : Rat) = 1 * κ) : Tells a b c d q n (1 / ((n - 1 : Nat) : Rat)) := by
  subst hq
  have e : ((n - 1 : Nat) : Rat) = (n : Rat) - 1 := by
    obtain ⟨m, rfl⟩ : ∃ m, n = m + 1 := ⟨n - 1, by omega⟩
    rw [Nat.add_sub_cancel, Rat.natCast_add]
    have : ((1 : Nat) : Rat) = 1 := rfl
    grind
  have e0 : ((n - 1 : Nat) : Rat) ≠ 0 := by rw [Ne, Rat.natCast_eq_zero_iff]; omega
  have ex : xQ 1 n = (n : Rat) := if_pos rfl
  rw [e] at e0 ⊢
  refine tells_of k0 e0 ?_ ?_
  · rw [ex, ha, hb]
    grind
  · rw [ex, hc, hd]
    grind
theorem right_tells {q : Rat} (h : R9 q) {j n : Nat} (h1 : 1 ≤ j) (h2 : j < n) {κ : Rat} (k0 : κ ≠ 0) {a b c d : Int} {f0 f1 f2 f3 : Rat} (hf : rForm q j = [f0, f1, f2, f3]) (ha : (a : Rat) = f0 * κ) (hb : (b : Rat) = f1 * κ) (hc : (c : Rat) = f2 * κ) (hd : (d : Rat) = f3 * κ) : Tells a b c d q n ((lastQ q n).getD j 0) := by
  rw [lastQ_getD h1 h2]
  unfold rForm at hf
  by_cases hq : q = 1
  · rw [if_pos hq] at hf
    cases hf
    rw [hq, part_one, one_pow', Rat.mul_one]
    exact one_tells (by omega) rfl k0 ha hb hc hd
  · rw [if_neg hq] at hf
    cases hf
    have q0 : q ≠ 0 := fun z => by have := h.pos; rw [z] at this; exact absurd this (by decide)
    have np := h.pow_ne hq (b := n - 1) (by omega)
    rw [part_ne hq]
    have ex : xQ q n = q ^ n := if_neg hq
    obtain ⟨t, ht⟩ : ∃ t, t = n - 1 - j := ⟨_, rfl⟩
    have e1 : q ^ n = q ^ (j + 1) * q ^ t := by rw [← q_pow_add]; congr 1; omega
    have e2 : q ^ n = q ^ (n - 1) * q := by rw [← Rat.pow_succ]; congr 1; omega
    have e3 := pow_cancel q0 (j + 1)
    rw [← ht, show (1 - q) / (1 - q ^ (n - 1)) * q ^ t = ((1 - q) * q ^ t) / (1 - q ^ (n - 1)) by rw [Rat.div_def, Rat.div_def]; grind]
    refine tells_of k0 np ?_ ?_
    · rw [ex, ha, hb, e1]
      grind
    · rw [ex, hc, hd, e2]
      grind
theorem left_tells {q : Rat} (h : R9 q) {j n : Nat} (h1 : 1 ≤ j) (h2 : j < n) {κ : Rat} (k0 : κ ≠ 0) {a b c d : Int} {f0 f1 f2 f3 : Rat} (hf : lForm q j = [f0, f1, f2, f3]) (ha : (a : Rat) = f0 * κ) (hb : (b : Rat) = f1 * κ) (hc : (c : Rat) = f2 * κ) (hd : (d : Rat) = f3 * κ) : Tells a b c d q n ((lastQ q n).getD (n - j) 0) := by
  rw [lastQ_getD (by omega) (by omega), show n - 1 - (n - j) = j - 1 by omega]
  unfold lForm at hf
  by_cases hq : q = 1
  · rw [if_pos hq] at hf
    cases hf
    rw [hq, part_one, one_pow', Rat.mul_one]
    exact one_tells (by omega) rfl k0 ha hb hc hd
  · rw [if_neg hq] at hf
    cases hf
    have q0 : q ≠ 0 := fun z => by have := h.pos; rw [z] at this; exact absurd this (by decide)
    have np := h.pow_ne hq (b := n - 1) (by omega)
    rw [part_ne hq]
    have ex : xQ q n = q ^ n := if_neg hq
    have e2 : q ^ n = q ^ (n - 1) * q := by rw [← Rat.pow_succ]; congr 1; omega
    rw [show (1 - q) / (1 - q ^ (n - 1)) * q ^ (j - 1) = ((1 - q) * q ^ (j - 1)) / (1 - q ^ (n - 1)) by rw [Rat.div_def, Rat.div_def]; grind]
    refine tells_of k0 np ?_ ?_
    · rw [ex, ha, hb]
      grind
    · rw [ex, hc, hd, e2]
      grind
theorem formF_len (qs : List Rat) : (formF qs).length = qs.length := by
  unfold formF rowF
  rw [List.length_map, List.length_map]
theorem row_sz {a P : Nat} {q : Rat} (b : Nat) (hq : QSz a q) (hP : P < 2 ^ b) : Sz (a + b) (q.num * ((P : Int) / (q.den : Int))) := by
  refine hq.num.mul ?_
  refine Sz.le (y := (P : Int)) (by unfold Sz; rw [Int.natAbs_natCast]; exact hP) ?_
  exact natAbs_div_le _ _
theorem rowF_sz {a : Nat} {qs : List Rat} (hq : ∀ q ∈ qs, QSz a q) : ∀ x ∈ rowF (lcmF qs) qs, Sz (a + (a * qs.length + 1)) x := fun x hx => by
  unfold rowF at hx
  obtain ⟨q, hm, rfl⟩ := List.mem_map.mp hx
  exact row_sz _ (hq q hm) (lcmF_sz _ qs rfl hq)
theorem formF_sz {a : Nat} {qs : List Rat} (hq : ∀ q ∈ qs, QSz a q) : ∀ y ∈ formF qs, Sz (a + (a * qs.length + 1)) y := fun y hy => by
  unfold formF at hy
  obtain ⟨x, hx, rfl⟩ := List.mem_map.mp hy
  have h1 := rowF_sz hq x hx
  have h2 := gcdF_dvd _ (rowF (lcmF qs) qs) rfl x hx
  have h3 : (if (rowF (lcmF qs) qs).getD 2 0 < 0 then -(gcdF (rowF (lcmF qs) qs) : Int) else (gcdF (rowF (lcmF qs) qs) : Int)) ∣ x := by
    split
    · exact Int.neg_dvd.mpr h2
    · exact h2
  rw [Int.fdiv_eq_ediv_of_dvd h3]
  refine Sz.le h1 ?_
  exact Int.natAbs_ediv_le_natAbs _ _
theorem rForm_sz {q : Rat} (h : R9 q) {j : Nat} (hj : j ≤ 40) : ∀ f ∈ rForm q j, QSz 180 f := fun f hf => by
  unfold rForm at hf
  have i1 : QSz 6 (1 - q) := by have := h.up1; rwa [Rat.pow_one] at this
  have i2 : QSz 165 ((1 / q) ^ (j + 1)) := h.inv.powS (k := 41) (by omega)
  have i3 : QSz 8 (0 - 1 / q) := QSz.zero.sub h.inv.small
  split at hf
  · simp only [List.mem_cons, List.not_mem_nil, or_false] at hf
    rcases hf with rfl | rfl | rfl | rfl
    · exact QSz.one.mono (by decide)
    · exact QSz.zero.mono (by decide)
    · exact QSz.mono (a := 20) (b := 180) (x := -1) ⟨by decide +kernel, by decide +kernel⟩ (by decide)
    · exact QSz.one.mono (by decide)
  · simp only [List.mem_cons, List.not_mem_nil, or_false] at hf
    rcases hf with rfl | rfl | rfl | rfl
    · exact QSz.zero.mono (by decide)
    · exact (i1.mul i2 (c := 171)).mono (by decide)
    · exact QSz.one.mono (by decide)
    · exact i3.mono (by decide)
theorem lForm_sz {q : Rat} (h : R9 q) {j : Nat} (hj : j ≤ 40) : ∀ f ∈ lForm q j, QSz 180 f := fun f hf => by
  unfold lForm at hf
  have i1 : QSz 6 (1 - q) := by have := h.up1; rwa [Rat.pow_one] at this
  have i2 : QSz 165 (q ^ (j - 1)) := h.powS (k := 41) (by omega)
  have i3 : QSz 8 (0 - 1 / q) := QSz.zero.sub h.inv.small
  split at hf
  · simp only [List.mem_cons, List.not_mem_nil, or_false] at hf
    rcases hf with rfl | rfl | rfl | rfl
    · exact QSz.one.mono (by decide)
    · exact QSz.zero.mono (by decide)
    · exact QSz.mono (a := 20) (b := 180) (x := -1) ⟨by decide +kernel, by decide +kernel⟩ (by decide)
    · exact QSz.one.mono (by decide)
  · simp only [List.mem_cons, List.not_mem_nil, or_false] at hf
    rcases hf with rfl | rfl | rfl | rfl
    · exact (i1.mul i2 (c := 171)).mono (by decide)
    · exact QSz.zero.mono (by decide)
    · exact QSz.one.mono (by decide)
    · exact i3.mono (by decide)
end Fz
/-! texts -/
namespace Fz
open PySem PySem.Spec PyProof.Rows L2
section
variable {B : Bx} {ρ : List En} {a b c e o : Expr} {es : List Expr} {k : D → Prop} {x y z : Str} {pos p p' apos : Pos}
def kStr (f : Str → Prop) : D → Prop
  | .str i => f i
  | _ => False
theorem kStr_of {K : PySem.W.Frag} {S : Addr} {G : Hp} {v : V} {d : D} {f : Str → Prop} (r : Rep K S G v d) (h : kStr f d) : ∃ i, v = .str i ∧ f i := by
  cases d with
  | str i => exact ⟨i, r.strI, h⟩
  | _ => exact h.elim
theorem RepAll.mapStr {K : PySem.W.Frag} {S : Addr} {G : Hp} : ∀ {vs : List V} {ns : List Str}, RepAll K S G vs (ns.map D.str) → vs = ns.map V.str
  | _, [], .nil => rfl
  | _, n :: ns, .cons h a => by rw [h.strI, RepAll.mapStr a]; rfl
theorem rep_strs {K : PySem.W.Frag} {S : Addr} {G : Hp} : ∀ ys : List Str, RepAll K S G (ys.map V.str) (ys.map D.str)
  | [] => .nil
  | y :: ys => .cons (.str y) (rep_strs ys)
/-- a list of texts -/
def kStrs (f : List Str → Prop) : D → Prop := fun d => ∃ ys : List Str, d = .lst (ys.map D.str) ∧ f ys
/-- str(i) -/
theorem tk_str (hm : B.X.mg "str" = none) (h : Tk B ρ a (kInt fun i => i.natAbs.log2 < 1920 ∧ k (.str (toString i)))) (hg : Gl B.X "str" := by rfl)
    (he : starEach (a :: []) B.X.env = (false, eval a B.X.env) :: starEach [] B.X.env := by rfl) (hpl : (backTo pos (starEach [] B.X.env)).any (·.1) = false := by rfl) : Tk B ρ (.Call (.Name "str" p) [a] [] pos) k :=
  tk_bty call_str_int hm (by decide +kernel) (ta_one h he)
    (fun vs ds G H sg i r h => by
      obtain ⟨v, d, rfl, rv, hd⟩ := ko1 r h
      obtain ⟨j, rfl, hz, hk⟩ := kInt_of rv hd
      exact ⟨j, rfl, hz, .val sg i (.str _) hk⟩) hg (by decide) (by decide) he hpl
/-- int(text) -/
theorem tk_intS (hm : B.X.mg "int" = none) (h : Tk B ρ a (kStr fun x => ∃ n, PySem.intText? x = some n ∧ x.length ≤ 640 ∧ k (.int n))) (hg : Gl B.X "int" := by rfl)
    (he : starEach (a :: []) B.X.env = (false, eval a B.X.env) :: starEach [] B.X.env := by rfl) (hpl : (backTo pos (starEach [] B.X.env)).any (·.1) = false := by rfl) : Tk B ρ (.Call (.Name "int" p) [a] [] pos) k :=
  tk_bty call_int_str hm PySem.Pv.boot_int (ta_one h he)
    (fun vs ds G H sg i r h => by
      obtain ⟨v, d, rfl, rv, hd⟩ := ko1 r h
      obtain ⟨j, rfl, n, hn, hl, hk⟩ := kStr_of rv hd
      exact ⟨j, n, rfl, hn, hl, .val sg i (.int _) hk⟩) hg (by decide) (by decide) he hpl
/-- a.split(b) -/
theorem tk_split (h : Tk B ρ o (kStr fun x => Tk B ρ e (kStr fun y => (y.length == 0) = false ∧ x.length + 2 ≤ sizeLine ∧ k (.lst ((Txt.split x y).map D.str)))))
    (hs : starEach [e] B.X.env = [(false, eval e B.X.env)] := by rfl) (hbase : attributeBase o "split" B.X.env (eval o B.X.env) = eval o B.X.env := by rfl) (hline : (apos.endLine == pos.line) = true := by rfl) : Tk B ρ (.Call (.Attribute o "split" apos) [e] [] pos) k := Tk.of fun σ H G s =>
  ⟨_, pe_split pe_W pe_W hs hbase hline, h.te s fun v d G1 H1 g1 i1 r1 h1 => by
    obtain ⟨x, rfl, h1⟩ := kStr_of r1 h1
    refine ⟨⟨x, rfl⟩, Tk.te h1 (s.step g1 i1) fun v d G2 H2 g2 i2 r2 h2 => ?_⟩
    obtain ⟨y, rfl, h3, h4, hk⟩ := kStr_of r2 h2
    exact ⟨x, y, rfl, rfl, h3, h4, fun p n => .back i2 (g1.trans i1 g2) (.new ((s.step g1 i1).step g2 i2).gr.s i2 n (.lst (rep_strs _)) hk)⟩⟩
/-- a.join(a list of texts) -/
theorem tk_join (h : Tk B ρ o (kStr fun x => Tk B ρ e (kStrs fun ys => (ys.map (·.length)).sum + ys.length * x.length ≤ 16777216 ∧ k (.str (Txt.join x ys)))))
    (hs : starEach [e] B.X.env = [(false, eval e B.X.env)] := by rfl) (hbase : attributeBase o "join" B.X.env (eval o B.X.env) = eval o B.X.env := by rfl) (hline : (apos.endLine == pos.line) = true := by rfl) : Tk B ρ (.Call (.Attribute o "join" apos) [e] [] pos) k := Tk.of fun σ H G s =>
  ⟨_, pe_join pe_W pe_W hs hbase hline, h.te s fun v d G1 H1 g1 i1 r1 h1 => by
    obtain ⟨x, rfl, h1⟩ := kStr_of r1 h1
    refine ⟨⟨x, rfl⟩, Tk.te h1 (s.step g1 i1) fun v d G2 H2 g2 i2 r2 h2 => ?_⟩
    obtain ⟨ys, rfl, hz, hk⟩ := h2
    have s2 := (s.step g1 i1).step g2 i2
    obtain ⟨q, xs, rfl, hq, ra⟩ := r2.lstI
    obtain rfl := ra.mapStr
    exact ⟨x, q, ys, rfl, rfl, .inl (SqL.of (s2.gr.s _ _ hq)), hz, .back i2 (g1.trans i1 g2) (.val s2.gr.s i2 (.str _) hk)⟩⟩
/-! f-strings -/
def Tj (B : Bx) (ρ : List En) (es : List Expr) (acc : Str) (k : Str → Prop) : Prop := ∀ σ H G, StOk B ρ σ H G → tJs (es.map (tW B.X)) acc σ H fun out H' => ∃ G', Gr B.M.W G H G' H' ∧ B.M.I G' H' ∧ k out
theorem tj_nil {acc : Str} {k : Str → Prop} (h : k acc) : Tj B ρ [] acc k := fun σ H G s => ⟨G, .refl s.gr.s, s.inv, h⟩
theorem tj_cons {acc : Str} {k : Str → Prop} (h : Tk B ρ e (kStr fun y => (acc ++ y).length ≤ sizeLine ∧ Tj B ρ es (acc ++ y) k)) : Tj B ρ (e :: es) acc k := fun σ H G s => by
  show tW B.X e σ H _
  refine h.te s fun v d G1 H1 g1 i1 r1 h1 => ?_
  obtain ⟨y, rfl, hz, hk⟩ := kStr_of r1 h1
  refine ⟨y, rfl, hz, ?_⟩
  have q := hk σ H1 G1 (s.step g1 i1)
  have mono : ∀ (ts : List TE) (acc : Str) (H1 : Hp) (Q Q' : Str → Hp → Prop), (∀ out H, Q out H → Q' out H) → (∀ t ∈ ts, ∃ e : Expr, t = tW B.X e) → tJs ts acc σ H1 Q → tJs ts acc σ H1 Q' := by
    intro ts
    induction ts with
    | nil => intro acc H1 Q Q' m _ q; exact m _ _ q
    | cons t ts ih =>
      intro acc H1 Q Q' m ht q
      obtain ⟨e, rfl⟩ := ht t (.head _)
      intro pins s0 I
      refine thn (q pins s0 I) fun u s' ⟨v, H2, I2, r2, y, e1, e2, e3⟩ => ⟨v, H2, I2, r2, y, e1, e2, ?_⟩
      exact ih _ _ _ _ m (fun t h => ht t (.tail _ h)) e3
  refine mono _ _ _ _ _ (fun out H2 ⟨G2, g2, i2, hk⟩ => ⟨G2, g1.trans i1 g2, i2, hk⟩) (fun t ht => ?_) q
  obtain ⟨e, _, rfl⟩ := List.mem_map.mp ht
  exact ⟨e, rfl⟩
theorem pj_W {X : Cx} : ∀ es : List Expr, PJ X es (es.map (tW X))
  | [] => .nil
  | _ :: es => .cons pe_W (pj_W es)
theorem tk_fstr {v1 v2 : Expr} {rest : List Expr} (h : Tj B ρ (v1 :: v2 :: rest) Str.empty fun out => k (.str out)) : Tk B ρ (.JoinedStr (v1 :: v2 :: rest) pos) k := Tk.of fun σ H G s =>
  ⟨_, pe_joined (pj_W _), by
    have mono : ∀ (ts : List TE) (acc : Str) (H1 : Hp) (Q Q' : Str → Hp → Prop), (∀ out H, Q out H → Q' out H) → (∀ t ∈ ts, ∃ e : Expr, t = tW B.X e) → tJs ts acc σ H1 Q → tJs ts acc σ H1 Q' := by
      intro ts
      induction ts with
      | nil => intro acc H1 Q Q' m _ q; exact m _ _ q
      | cons t ts ih =>
        intro acc H1 Q Q' m ht q
        obtain ⟨e, rfl⟩ := ht t (.head _)
        intro pins s0 I
        refine thn (q pins s0 I) fun u s' ⟨v, H2, I2, r2, y, e1, e2, e3⟩ => ⟨v, H2, I2, r2, y, e1, e2, ?_⟩
        exact ih _ _ _ _ m (fun t h => ht t (.tail _ h)) e3
    exact mono ((v1 :: v2 :: rest).map (tW B.X)) _ _ _ _ (fun out H2 ⟨G2, g2, i2, hk⟩ => ⟨.str out, G2, g2, i2, .str _, hk⟩) (fun t ht => by
      obtain ⟨e, _, he⟩ := List.mem_map.mp ht
      exact ⟨e, he.symm⟩) (h σ H G s)⟩
/-- {i} -/
theorem tk_fmtI (h : Tk B ρ e (kInt fun i => i.natAbs.log2 < 1920 ∧ k (.str (toString i)))) : Tk B ρ (.FormattedValue e (-1) none pos) k := Tk.of fun σ H G s =>
  ⟨_, pe_fmt pe_W, h.te s fun v d G1 H1 g1 i1 r1 h1 => by
    obtain ⟨i, rfl, hz, hk⟩ := kInt_of r1 h1
    exact .inr ⟨i, rfl, hz, .back i1 g1 (.val (s.step g1 i1).gr.s i1 (.str _) hk)⟩⟩
/-! x in texts, ints -/
theorem rep_seqs {K : PySem.W.Frag} {S : Addr} {G H : Hp} {v : V} {d : D} {ds : List D} (e : Same G H) (r : Rep K S G v d) (h : d = .lst ds ∨ d = .tup ds) : ∃ p xs, v = .ref p ∧ (SqL K H p xs ∨ SqT K H p xs) ∧ RepAll K S G xs ds := by
  rcases h with rfl | rfl
  · obtain ⟨a, xs, rfl, ha, ra⟩ := r.lstI
    exact ⟨a, xs, rfl, .inl (SqL.of (e _ _ ha)), ra⟩
  · obtain ⟨a, xs, rfl, ha, ra⟩ := r.tupI
    exact ⟨a, xs, rfl, .inr (same_seqT e ha), ra⟩
def oInS (neg : Bool) : D → D → (D → Prop) → Prop := fun x y k => ∃ (w : Str) (ys : List Str), x = .str w ∧ (y = .lst (ys.map D.str) ∨ y = .tup (ys.map D.str)) ∧ k (.bl (if neg then !ys.any (fun y => y == w) else ys.any fun y => y == w))
theorem inV_strs (w : Str) (ys : List Str) : inV (.str w) (ys.map V.str) = ys.any (fun y => y == w) := by
  unfold inV
  rw [List.any_map]
  rfl
theorem flat_strs (ys : List Str) : (ys.map V.str).all flatV = true := List.all_eq_true.mpr fun v hv => by
  obtain ⟨y, -, rfl⟩ := List.mem_map.mp hv
  rfl
theorem d_inS : OpD B (compareOp .In) (oInS false) := fun x y k h v w G H e i rx ry pins σ s I v' w' r1 r2 => by
  obtain ⟨t, ys, rfl, hy, hk⟩ := h
  obtain ⟨p, xs, rfl, hq, ra⟩ := rep_seqs e ry hy
  obtain rfl := ra.mapStr
  rw [rx.strI] at r1
  refine op_in_seq pins s σ H _ _ v' w' _ I r1 r2 ⟨p, _, rfl, hq, rfl, flat_strs ys, ?_⟩
  rw [inV_strs]
  exact .val e i (.bl _) hk
theorem d_notInS : OpD B (compareOp .NotIn) (oInS true) := fun x y k h v w G H e i rx ry pins σ s I v' w' r1 r2 => by
  obtain ⟨t, ys, rfl, hy, hk⟩ := h
  obtain ⟨p, xs, rfl, hq, ra⟩ := rep_seqs e ry hy
  obtain rfl := ra.mapStr
  rw [rx.strI] at r1
  refine op_notIn_seq pins s σ H _ _ v' w' _ I r1 r2 ⟨p, _, rfl, hq, rfl, flat_strs ys, ?_⟩
  rw [inV_strs]
  exact .val e i (.bl _) hk
def oInI : D → D → (D → Prop) → Prop := fun x y k => ∃ (w : Int) (ys : List Int), x = .int w ∧ (y = .lst (ys.map D.int) ∨ y = .tup (ys.map D.int)) ∧ k (.bl (ys.any fun y => y == w))
theorem d_inI : OpD B (compareOp .In) oInI := fun x y k h v w G H e i rx ry pins σ s I v' w' r1 r2 => by
  obtain ⟨t, ys, rfl, hy, hk⟩ := h
  obtain ⟨p, xs, rfl, hq, ra⟩ := rep_seqs e ry hy
  obtain rfl := ra.mapInt
  rw [rx.intI] at r1
  refine op_in_seq pins s σ H _ _ v' w' _ I r1 r2 ⟨p, _, rfl, hq, rfl, List.all_eq_true.mpr fun v hv => by
    obtain ⟨y, -, rfl⟩ := List.mem_map.mp hv
    rfl, ?_⟩
  rw [show inV (.int t) (ys.map V.int) = ys.any (fun y => y == t) by
    unfold inV
    rw [List.any_map]
    rfl]
  exact .val e i (.bl _) hk
/-! a tuple's slice, x or y of lists, an item by a name -/
theorem tk_slT {lo hi : Option Expr} {p2 : Pos} (h : Tk B ρ e (kSeqT fun ds => Tp B ρ lo fun l => Tp B ρ hi fun u => ¬ (HT.sIx ds.length 0 l = 0 ∧ HT.sIx ds.length ds.length u = ds.length) ∧ k (.tup (cutD ds l u)))) : Tk B ρ (.Subscript e (.Slice lo hi none p2) pos) k := Tk.of fun σ H G s =>
  ⟨_, pe_slice sl_tup pe_W po_W po_W, h.te s fun v d G1 H1 g1 i1 r1 h1 => by
    cases d with
    | tup es =>
      obtain ⟨a, xs, rfl, ha, ra⟩ := r1.tupI
      have s1 := s.step g1 i1
      intro pins s0 I
      refine thn (h1 σ H1 G1 s1 pins s0 I) fun u s' ⟨o, H2, I2, po, G2, g2, i2, h2⟩ => ⟨o, H2, I2, po, ?_⟩
      have s2 := s1.step g2 i2
      intro pins s0 I
      refine thn (h2 σ H2 G2 s2 pins s0 I) fun u s' ⟨o2, H3, I3, po, G3, g3, i3, h3⟩ => ⟨o2, H3, I3, po, ?_⟩
      have s3 := s2.step g3 i3
      have gg := g2.g.trans g3.g
      refine ⟨a, xs, rfl, same_seqT (gg.trans s3.gr.s) ha, by rw [ra.length]; exact h3.1, fun q n => .back i3 (g1.trans i1 (g2.trans i2 g3)) (.newT s3.gr.s i3 n ?_ h3.2)⟩
      unfold cutV
      rw [ra.length]
      exact ((ra.mono gg).drop _).take _
    | _ => exact h1.elim⟩
theorem tk_orL {rest : List Expr} (h : Tk B ρ a (fun d => ∃ ds, d = .lst ds ∧ cB (!ds.isEmpty) (k (.lst ds)) (Tk B ρ (.BoolOp .Or (b :: rest) pos) k))) : Tk B ρ (.BoolOp .Or (a :: b :: rest) pos) k := Tk.of fun σ H G s =>
  ⟨_, pe_orT pe_W pe_W, h.te s fun v d G1 H1 g1 i1 r1 h1 => by
    have s1 := s.step g1 i1
    obtain ⟨ds, rfl, h2⟩ := h1
    obtain ⟨p, xs, rfl, ha, ra⟩ := id r1.lstI
    refine ⟨!xs.isEmpty, .inl ⟨xs, SqL.of (s1.gr.s _ _ ha), rfl⟩, ?_⟩
    have el : xs.isEmpty = ds.isEmpty := by cases ra <;> rfl
    rw [el]
    cases e : (!ds.isEmpty) with
    | true =>
      rw [e] at h2
      rw [if_pos rfl]
      exact ⟨_, G1, g1, i1, r1, h2⟩
    | false =>
      rw [e] at h2
      rw [if_neg Bool.false_ne_true]
      exact Tk.te h2 s1 fun v2 d2 G2 H2 g2 i2 r2 h3 => ⟨d2, G2, g1.trans i1 g2, i2, r2, h3⟩⟩
theorem tk_dgetV {ks : List Key} (i : Nat) (nd : ks.Nodup) (h : Tk B ρ a (fun d => ∃ ds y, d = .dct ks ds ∧ Tk B ρ b (kStr fun x => ks[i]? = some (.inr x) ∧ ds[i]? = some y ∧ k y))) (hu : B.X.A.units + 1 < cLine) (hs : NoSl b := by exact fun _ _ => rfl) : Tk B ρ (.Subscript a b pos) k := Tk.of fun σ H G s =>
  ⟨_, pe_dget hu pe_W pe_W hs, h.te s fun v d G1 H1 g1 i1 r1 h1 => by
    obtain ⟨ds, y, rfl, h1⟩ := h1
    refine h1.te (s.step g1 i1) fun v2 d2 G2 H2 g2 i2 r2 h2 => ?_
    obtain ⟨x, rfl, hk, hy, hky⟩ := kStr_of r2 h2
    obtain ⟨q, kvs, rfl, hq, e1, ra⟩ := (r1.mono g2.g).dctI
    have s2 := (s.step g1 i1).step g2 i2
    obtain ⟨w, hw, rw'⟩ := ra.get hy
    have hv := valV_at (kvs := kvs) (by rw [e1]; exact nd) (by rw [e1]; exact hk) hw
    exact ⟨q, w, rfl, by rw [← hv]; exact DGet.k (k := .inr x) (s2.gr.s _ _ hq), .back i2 (g1.trans i1 g2) (.val s2.gr.s i2 rw' hky)⟩⟩
end
end Fz
/-! constants that are tuples of texts; lines and words -/
namespace Fz
open PySem PySem.Spec PyProof.Rows L2
abbrev strsD (ys : List Str) : D := .tup (ys.map D.str)
section
variable {K : PySem.W.Frag} {h : Heap} {mg : Str → Option Value} {S : Addr} {x : Str}
theorem co_strs {ys : List Str} {its : List Value} {d : Option Addr} {n : Nat} {sl : Array (Option Value)} {p : Addr} (X : K.In h) (G : h.Ns mainGlobals mg) (a : PySem.W.nsIn K mainGlobals x = some (some (.ref p))) (l : K.lookup p = some ⟨.type "tuple", d, .seq its.toArray n, sl⟩) (hl : ys.length ≤ 1000)
    (hv : Vals (ys.map V.str) its) : Co K mg S x (strsD ys) :=
  ⟨_, .ref p, PySem.W.mg_of X G a, rfl, fun G' => .tup (xs := ys.map V.str) (.inr ⟨_, _, _, l, rfl, rfl, by rw [List.size_toArray, ← hv.length, List.length_map]; exact lenOk hl, hv⟩) (rep_strs ys)⟩
end
/-! ### words of a line, by its signs -/
def wordsL (l : List Nat) : List (List Nat) := (TL.spl [32] 0 [] l).filter fun w => !w.isEmpty
theorem wordsL_nil : wordsL [] = [] := rfl
theorem wordsL_sp (q : List Nat) : wordsL (32 :: q) = wordsL q := by
  have e : TL.spl [32] 0 [] ([] ++ ([32] ++ q)) = [] :: TL.spl [32] 0 [] q := SX.spl_free q (by decide) rfl
  unfold wordsL
  rw [show (32 :: q) = [] ++ ([32] ++ q) from rfl, e]
  rfl
theorem wordsL_word {w : List Nat} (q : List Nat) (hw : w ≠ []) (h : 32 ∉ w) : wordsL (w ++ 32 :: q) = w :: wordsL q := by
  have e : TL.spl [32] 0 [] (w ++ ([32] ++ q)) = w :: TL.spl [32] 0 [] q := SX.spl_free q (by decide) (SX.free_head h)
  unfold wordsL
  rw [show w ++ 32 :: q = w ++ ([32] ++ q) from rfl, e, List.filter_cons_of_pos (by simpa using hw)]
theorem wordsL_last {w : List Nat} (hw : w ≠ []) (h : 32 ∉ w) : wordsL w = [w] := by
  have e : TL.spl [32] 0 [] (TL.joinL [32] [w]) = [w] := SX.spl_join (List.cons_ne_nil _ _) fun p hp => by rw [List.mem_singleton.mp hp]; exact h
  unfold wordsL
  rw [show w = TL.joinL [32] [w] from rfl, e]
  show List.filter _ [w] = [w]
  rw [List.filter_cons_of_pos (by simpa using hw)]
  rfl
theorem wordsL_sps (n : Nat) (q : List Nat) : wordsL (List.replicate n 32 ++ q) = wordsL q := by
  induction n with
  | zero => rfl
  | succ n ih => rw [List.replicate_succ, List.cons_append, wordsL_sp, ih]
theorem wordsL_join : ∀ {ws : List (List Nat)}, (∀ w ∈ ws, w ≠ [] ∧ 32 ∉ w) → wordsL (TL.joinL [32] ws) = ws
  | [], _ => rfl
  | [w], h => wordsL_last (h w (.head _)).1 (h w (.head _)).2
  | w :: w2 :: ws, h => by
    show wordsL (w ++ (32 :: TL.joinL [32] (w2 :: ws))) = _
    rw [wordsL_word _ (h w (.head _)).1 (h w (.head _)).2, wordsL_join fun x hx => h x (.tail _ hx)]
abbrev spW : Str := SX.S [32]
abbrev nlW : Str := SX.S [10]
/-- the words of each line -/
def rowsOf (t : Str) : List (List Str) := (Txt.split t nlW).map fun l => (Txt.split l spW).filter fun w => !decide (w = Str.empty)
theorem S_empty (w : List Nat) : decide (SX.S w = Str.empty) = w.isEmpty := by
  cases w with
  | nil => rfl
  | cons c w => exact decide_eq_false fun z => by have := SX.S_inj (b := []) z; cases this
theorem rowsOf_S (l : List Nat) : rowsOf (SX.S l) = (TL.spl [10] 0 [] l).map fun x => (wordsL x).map SX.S := by
  unfold rowsOf
  rw [SX.split_S (by decide) (by decide), List.map_map]
  refine List.map_congr_left fun x _ => ?_
  show (Txt.split (SX.S x) spW).filter _ = _
  rw [SX.split_S (by decide) (by decide), List.filter_map]
  unfold wordsL
  congr 1
  refine List.filter_congr fun w _ => ?_
  show (!decide (SX.S w = Str.empty)) = !w.isEmpty
  rw [S_empty]
/-- lines without a line break, joined and cut again -/
theorem rowsOf_lines {ls : List (List Nat)} (hne : ls ≠ []) (h : ∀ l ∈ ls, 10 ∉ l) : rowsOf (Txt.join nlW (ls.map SX.S)) = ls.map fun x => (wordsL x).map SX.S := by
  rw [SX.join_S, rowsOf_S, SX.spl_join hne h]
end Fz
/-! != of an own class with an own ==; a text so often -/
namespace Fz
open PySem PySem.Spec PyProof.Rows L2
open Builtin
section
variable {prog : Program} {w : World} {A : Around} {E : Value → Shared → Prop} {s : Shared} {K : PySem.W.Frag} {x C f : Addr} {ox : Obj} {od : Option Obj} {b : Value}
theorem objNe_entry {Q : Fin → Shared → Prop} (X : K.In s.heap) (I : PySem.W.InstAt s.heap x ox C od) (hs : PySem.W.findIn K (.ref C) "__eq__" = some (some (.ref f))) (hf : PySem.W.isFn K (.ref f) = true) (hu : A.units < cLine)
    (hcall : wpAny (model prog w) A (call (.ref f) [.ref x, b]) (fun v s' => ∃ r, v = .bool r ∧ Q (.done (.ret (.bool (!r)))) s') E s) :
    wpAny (model prog w) A (Builtin.«object.__ne__» ⟨[.ref x, b], []⟩) Q E s := by
  unfold Builtin.«object.__ne__»
  repeat (first
    | with_reducible refine wpAny_cRoomFor hu ?_
    | (refine wpAny_bind (m := callSpecialIfBound? (.ref x) (Str.ofString "__eq__") [b])
        (PySem.W.ifBound_K X I hs hf (wpAny_mono hcall (fun v s' hr => by
          obtain ⟨r, rfl, hq⟩ := hr
          repeat (first | exact hq | exact wpAny_pure hq | exact wpAny_truthy_bool hq | (refine wpAny_bind (m := truthy (.bool _)) (wpAny_truthy_bool ?_)) | wp_step)) fun _ _ e => e)))
    | wp_step)
theorem ifBound_objNe {M : Model} {args : List Value} {Q : Option Value → Shared → Prop} (X : K.In s.heap) (I : PySem.W.InstAt s.heap x ox C od) (hs : PySem.W.findIn K (.ref C) "__ne__" = some (some (.builtin "object.__ne__")))
    (h : wpAny M A (call (.builtin "object.__ne__") (.ref x :: args)) (fun v => Q (some v)) E s) : wpAny M A (callSpecialIfBound? (.ref x) "__ne__" args) Q E s := by
  simp only [callSpecialIfBound?, bindSpecialIfBound?]
  refine wpAny_holding (wpAny_bind (wpAny_bind (wpAny_bind (I.type.here ((PySem.W.looks_findIn X hs).here ?_)))))
  refine wpAny_bind (wpAny_askSetting (wpAny_ite ?_))
  have fin : wpAny M A (call (.builtin "object.__ne__") ([.ref x] ++ args) >>= fun v => pure (some v)) Q E s := wpAny_bind (wpAny_mono h (fun v s' h' => wpAny_pure h') fun _ _ h' => h')
  split
  · exact wpAny_bind (wpAny_of_eq (F.cmp_object.ne.bind _) (wpAny_pure (by exact fin)))
  · exact wpAny_tryCatch (wpAny_bind (wpAny_of_eq (F.cmp_object.ne.bind _) (wpAny_pure (by exact fin))))
/-- x != y of two instances of C -/
theorem cmpNe_K {Q : Value → Shared → Prop} (hu : A.units + 1 < cLine) (X : K.In s.heap) (I : PySem.W.InstAt s.heap x ox C od) (hb : PySem.W.Looks (model prog w) s.heap (typeOf b) (.ref C)) (hm : PySem.W.mroIn K C (.type "object") = some true)
    (hn : PySem.W.findIn K (.ref C) "__ne__" = some (some (.builtin "object.__ne__"))) (hs : PySem.W.findIn K (.ref C) "__eq__" = some (some (.ref f))) (hf : PySem.W.isFn K (.ref f) = true)
    (h : wpAny (model prog w) A.in1 (call (.ref f) [.ref x, b]) (fun v s' => ∃ r, v = .bool r ∧ Q (.bool (!r)) s') E s) : wpAny (model prog w) A (richCompare .NotEq (.ref x) b) Q E s := by
  have one : wpAny (model prog w) A (tryCompare (.ref x) "__ne__" b) (fun r s' => ∃ v, r = some v ∧ Q v s') E s := by
    unfold tryCompare
    refine wpAny_bind (ifBound_objNe X I hn (wpAny_call (codeAny_call_builtin F.cmp_object.ne.plain F.cmpEntry_ne (PySem.W.check_slot F.cmpKind_ne F.cmpSplit_ne (I.type.andThen (PySem.W.looks_mroIn X hm)) (F.cmpArgs_ne _ _)
      (objNe_entry (A := A.in1) X I hs hf hu (wpAny_mono h (fun v s' hv => ?_) fun _ _ e => e))))))
    obtain ⟨r, rfl, hq⟩ := hv
    exact ⟨r, rfl, wpAny_pure ⟨_, rfl, hq⟩⟩
  unfold richCompare
  simp only [oneThing_ref, cmpInfo_NotEq]
  refine wpAny_holding (wpAny_bind (wpAny_cRoomFor (Nat.lt_of_succ_lt hu) ?_))
  refine wpAny_bind (I.type.here (wpAny_bind (hb.here ?_)))
  split
  · rename_i q
    simp at q
  · refine wpAny_bind (wpAny_pure ?_)
    simp only [Bool.false_eq_true, if_false]
    refine wpAny_bind (wpAny_mono one (fun r s' z => ?_) fun _ _ e => e)
    obtain ⟨v, rfl, hq⟩ := z
    exact wpAny_pure hq
end
section
variable {B : Bx}
def oNeC (K : PySem.W.Frag) (C : Addr) {ι : Type} (Cc : ι → Prop) (A : ι → List D) (R : ι → Bool) : D → D → (D → Prop) → Prop := fun x y k =>
  (∃ fs ds, x = .ins C fs ds) ∧ (∃ fs ds, y = .ins C fs ds) ∧ ∃ i, [x, y] = A i ∧ Cc i ∧ k (.bl (!R i))
theorem d_neC {C : Addr} {ι : Type} {Cc : ι → Prop} {A : ι → List D} {R : ι → Bool} {n : Nat} (F : KnM B.X.prog B.X.w B.X.K B.X.mg B.X.base B.S "__eq__" n C (fun _ : ι => pur) Cc A (fun i d => d = .bl (R i)) (fun _ _ _ => False)) (hn : PySem.W.findIn B.X.K (.ref C) "__ne__" = some (some (.builtin "object.__ne__")))
    (hmo : PySem.W.mroIn B.X.K C (.type "object") = some true) (hu : B.X.A.units + 1 < cLine) {rm : Nat} (hr : Room rm B.X.A) (hrm : n + 1 ≤ rm := by decide) : OpD B (compareOp .NotEq) (oNeC B.X.K C Cc A R) := fun x y k h v w G H e i rx ry pins σ s I v' w' r1 r2 => by
  obtain ⟨f, fd, ps, hm, hb, F1⟩ := F.ex
  obtain ⟨⟨fs, ds, rfl⟩, ⟨fs2, ds2, rfl⟩, j, ej, cj, hk⟩ := h
  obtain ⟨q, dx, kvs, rfl, ha, ek, ra⟩ := id rx.insI
  cases r1
  obtain ⟨mA, J, _⟩ := ins_get I.hok (e _ _ ha)
  obtain ⟨od, J, _⟩ := J.look
  obtain ⟨m, hF⟩ := I.fr
  obtain ⟨q2, dx2, kvs2, rfl, ha2, _⟩ := id ry.insI
  cases r2
  obtain ⟨mB, J', _⟩ := ins_get I.hok (e _ _ ha2)
  obtain ⟨od', J', _⟩ := J'.look
  show wpAny (model B.X.prog B.X.w) B.X.A (richCompare .NotEq (.ref q) (.ref q2)) _ B.X.xe s
  refine cmpNe_K hu I.kIn J J'.type hmo hn hm.at_ hm.fn ?_
  have h2 : Spf B.X.K B.S (fun _ : ι => pur) Cc A (fun i d => d = .bl (R i)) (fun _ _ _ => False) [.ref q, .ref q2] H (fun v H' => ∃ b, v = .bl b ∧ Kd B G H k (.bl (!b)) H') E0 := by
    refine ⟨j, G, cj, e, trivial, ej ▸ .cons rx (.one ry), fun v d G' H' g j' r hR => ?_, fun c fs od G' H' g j' _ z => z.elim⟩
    subst hR
    obtain ⟨g', j2⟩ := (Sub.up (M := pur) (N := B.M) (.inl rfl) i g j')
    exact ⟨_, r.blI, _, G', g', j2, .bl _, hk⟩
  have e0 : Env0 B.X.prog B.X.w B.X.K B.X.mg B.X.base B.X.A.in1 B.X.stack s H := by
    have e := I.env0
    exact ⟨e.frames, e.mod, e.bs, e.bsz, e.funs, e.frf, e.hok, e.bare⟩
  have hl := F1.len _ _ _ _ h2
  have r2 : Vals [V.ref q, V.ref q2] [Value.ref q, Value.ref q2] := .cons rfl (.cons rfl .nil)
  have hroom : Room n B.X.A.in1 := (hr.mono hrm).in1
  refine wpAny_call (codeAny_mono (F1.run B.X.A.in1 B.X.stack s H ⟨[.ref q, .ref q2], []⟩ [.ref q, .ref q2] [.ref q, .ref q2] _ E0 hroom e0 (by
    have := hb s [.ref q, .ref q2] I.kIn (by simpa using hl)
    simpa using this) r2 h2) fun r s' hq => ?_)
  cases r with
  | error er => exact passX0 pins σ H s er s' I hq
  | ok fl =>
    cases fl with
    | ret z =>
      obtain ⟨v, H', I', rv, b, eb, hk⟩ := I.after hq
      subst eb
      cases (show z = Value.bool b from rv)
      exact ⟨b, rfl, .bl (!b), H', I', rfl, hk⟩
    | next => exact False.elim hq
    | brk => exact False.elim hq
    | cont => exact False.elim hq
/-- " " * n, n at most 2 -/
def oMulSp : D → D → (D → Prop) → Prop := fun x y k => ∃ n : Nat, x = .str spW ∧ y = .int (n : Int) ∧ n ≤ 2 ∧ k (.str (SX.S (List.replicate n 32)))
theorem d_mulSp : OpD B (binaryOp .Mult) oMulSp := fun x y k h v w G H e i rx ry pins σ s I v' w' r1 r2 => by
  obtain ⟨n, rfl, rfl, hn, hk⟩ := h
  rw [rx.strI] at r1
  rw [ry.intI] at r2
  obtain ⟨t, rfl⟩ := r1
  obtain ⟨u, rfl⟩ := r2
  have fin : ∀ (x : Str) (s' : Shared) (t : Tok), x = SX.S (List.replicate n 32) → Inv B.X pins σ H s' → EP B.X pins σ (Kd B G H k) (.str x t) s' := fun x s' t ex I' => by
    subst ex
    exact ⟨.str _, H, I', ⟨_, rfl⟩, .val e i (.str _) hk⟩
  obtain rfl | rfl | rfl : n = 0 ∨ n = 1 ∨ n = 2 := by omega
  · exact PySem.P.mul_str_none (by decide) (by decide) (fin _ _ _ rfl (I.tok _))
  · refine PySem.P.mul_str (by decide) (fun _ z => absurd z (by decide)) (fun _ z => absurd z (by decide)) ?_
    rw [if_neg (by decide), if_pos (by decide)]
    exact fin _ _ _ rfl I
  · refine PySem.P.mul_str (by decide) (fun _ _ => by decide) (fun _ _ => by decide +kernel) ?_
    rw [if_neg (by decide), if_neg (by decide)]
    exact ⟨by decide, fin _ _ _ (by decide +kernel) (I.tok _)⟩
end
end Fz
/-! a method with arguments that may raise; a text not in a dict -/
namespace Fz
open PySem PySem.Spec PyProof.Rows L2
section
variable {X : Cx} {CX : CXT} {k : Nat} {f C : Addr} {fd : FuncData} {ps : List Str} {sp : Sp} {E : L2.St → XK} {x m : Str} {p pos apos : Pos} {e o : Expr} {es : List Expr} {t : TA} {ta : TE}
def tMethS (C : Addr) (m : Str) (sp : Sp) (E : L2.St → XK) (to : TE) (t : TA) : TE := fun σ H Q => to σ H fun x H1 => ∃ a dx fs, x = .ref a ∧ H1 a = some (.ins C dx fs) ∧ fs.lookup m = none ∧ t σ H1 fun vs H2 => sp (.ref a :: vs) H2 Q (E σ)
theorem pe_methS {pl : Sem Bool} (he : PE X o ta) (c : Cls X.K C) (hm : Meth X.K C m f) (F : FnOk X.prog X.w X.K X.mg X.base CX k f fd ps sp) (hr : Room k X.A) (hb : Binds X.K fd ps []) (hx : ∀ σ, PassesAt CX X σ (E σ)) (ha : PA X (e :: es) t)
    (hst : starEach (e :: es) X.env = (false, eval e X.env) :: starEach es X.env := by rfl) (hpl : (backTo pos (starEach es X.env)).any (·.1) = false := by rfl)
    (ht : eval (.Call (.Attribute o m apos) (e :: es) [] pos) X.env = (do
      let ov ← eval o X.env
      standAt apos.atName
      let (f, first) ← holding [ov] (getMethod ov m pl)
      callWith pos f first (backTo pos (starEach (e :: es) X.env)) (backToKw pos (keywordEach [] X.env))) := by rfl) :
    PE X (.Call (.Attribute o m apos) (e :: es) [] pos) (tMethS C m sp E ta t) := by
  refine ⟨fun pins s σ H Q I h => ?_⟩
  refine PySem.W.methodCall_KW (pl := pl) (thn (he.run pins s σ H _ I h) fun u s1 ⟨x, H1, I1, rx, a, dx, fs, ex, ea, l, q⟩ => ?_) ht
  subst ex
  obtain rfl : u = Value.ref a := rx
  refine getmeth_ok I1 ea c hm l ?_
  refine PySem.W.callWith_K (first := [.ref a]) (h₀ := X.base) I1.ok.mod.kin hm.kp (thn (ha.run pos pins s1 σ H1 _ I1 q) fun us s2 ⟨vs, H2, I2, r, q2⟩ => ⟨I2.kIn, ?_⟩) hst hpl
  exact run_fnS (us := .ref a :: us) (vs := .ref a :: vs) F hr hb (hx σ) I2 (.cons rfl r) q2
end
section
variable {B : Bx} {ρ : List En} {a b c e o : Expr} {es : List Expr} {k : D → Prop} {x y z m : Str} {pos p p' apos : Pos}
/-- o.m(e, ..) that may raise -/
theorem tk_methX {C : Addr} {ι : Type} {M : ι → Md} {Cc : ι → Prop} {A : ι → List D} {R : ι → D → Prop} {XR : ι → Addr → List (Str × D) → Prop} {YR : Addr → List (Str × D) → Prop} {n : Nat} {pl : Sem Bool} (F : KnM B.X.prog B.X.w B.X.K B.X.mg B.X.base B.S m n C M Cc A R XR) (c : Cls B.X.K C) {rm : Nat} (hr : Room rm B.X.A) (rz : Rz B ρ YR)
    (h : Tk B ρ o fun d => (∃ fs ds, d = .ins C fs ds ∧ m ∉ fs) ∧ Ta B ρ (e :: es) fun ds => ∃ i, d :: ds = A i ∧ Cc i ∧ Sub (M i) B.M ∧ (∀ c fs, XR i c fs → YR c fs) ∧ ∀ d', R i d' → k d') (hrm : n ≤ rm := by decide)
    (hst : starEach (e :: es) B.X.env = (false, eval e B.X.env) :: starEach es B.X.env := by rfl) (hpl : (backTo pos (starEach es B.X.env)).any (·.1) = false := by rfl)
    (ht : eval (.Call (.Attribute o m apos) (e :: es) [] pos) B.X.env = (do
      let ov ← eval o B.X.env
      standAt apos.atName
      let (f, first) ← holding [ov] (getMethod ov m pl)
      callWith pos f first (backTo pos (starEach (e :: es) B.X.env)) (backToKw pos (keywordEach [] B.X.env))) := by rfl) : Tk B ρ (.Call (.Attribute o m apos) (e :: es) [] pos) k := by
  obtain ⟨f, fd, ps, hm, hb, F1⟩ := F.ex
  obtain ⟨W, tk, hW⟩ := rz
  refine Tk.of fun σ H G s => ⟨_, pe_methS (E := WE W) pe_W c hm F1 (hr.mono hrm) hb (passAt tk) pa_W hst hpl ht, h.te s fun v d G1 H1 g1 i1 r1 h1 => ?_⟩
  obtain ⟨⟨fs, ds, rfl, nm⟩, hT⟩ := h1
  obtain ⟨a, dx, kvs, rfl, ha, ek, ra⟩ := id r1.insI
  have s1 := s.step g1 i1
  refine ⟨a, dx, kvs, rfl, s1.gr.s _ _ ha, lookup_none (by rw [ek]; exact nm), hT.ta s1 fun vs es G2 H2 g2 i2 r2 h2 => ?_⟩
  obtain ⟨i, ei, ci, sb, hx, q⟩ := h2
  have s2 := s1.step g2 i2
  refine ⟨i, G2, ci, s2.gr.s, sb.inn i2, by rw [← ei]; exact .cons (r1.mono g2.g) r2, fun v d G' H' g j r hR => ?_, fun c fs od G' H' g j xd z => ?_⟩
  · obtain ⟨g', j'⟩ := sb.up i2 g j
    exact .back i1 g1 (.back i2 g2 ⟨d, G', g', j', r, q d hR⟩)
  · obtain ⟨g', j'⟩ := sb.up i2 g j
    exact hW c fs od σ H' G' (s2.step g' j') xd (hx c fs z)
/-- a key that is there: not in -/
def oNotInDk : D → D → (D → Prop) → Prop := fun x y k => ∃ (w : Str) (ks : List Key) (ds : List D) (i : Nat) (d : D), x = .str w ∧ y = .dct ks ds ∧ ks.Nodup ∧ ks[i]? = some (.inr w) ∧ ds[i]? = some d ∧ k (.bl false)
theorem d_notInDk (hu : B.X.A.units + 1 < cLine) : OpD B (compareOp .NotIn) oNotInDk := fun x y k h v w G H e i rx ry pins σ s I v' w' r1 r2 => by
  obtain ⟨t, ks, ds, j, d, rfl, rfl, nd, hk, hd, hkk⟩ := h
  obtain ⟨q, kvs, rfl, hq, e1, ra⟩ := ry.dctI
  obtain ⟨z, hz, rz⟩ := ra.get hd
  cases r2
  have hv := valV_at (kvs := kvs) (by rw [e1]; exact nd) (by rw [e1]; exact hk) hz
  have g : DGet H q (.str t) (some z) := by rw [← hv]; exact DGet.k (k := .inr t) (e _ _ hq)
  rw [rx.strI] at r1
  exact d_notIn hu I g r1 fun s' I' => ⟨.bl false, H, I', rfl, .val e i (.bl _) hkk⟩
end
end Fz
/-! own lists by any expression that makes one; x[i], x[j] = ..; comprehensions over zip -/
namespace Fz
open PySem PySem.Spec PyProof.Rows L2
/-- a new list, not yet let go -/
def Ko (B : Bx) (G H : Hp) (k : List D → Prop) : VK := fun v H' => ∃ p xs ds G', v = .ref p ∧ H p = none ∧ H' p = some (.lst xs) ∧ G' p = none ∧ Gr B.M.W G H G' H' ∧ B.M.I G' H' ∧ RepAll B.X.K B.S G' xs ds ∧ k ds
def TkO (B : Bx) (ρ : List En) (e : Expr) (k : List D → Prop) : Prop := ∀ σ H G, StOk B ρ σ H G → tW B.X e σ H (Ko B G H k)
section
variable {B : Bx} {ρ : List En} {a b c e elt tg iter e1 e2 ix1 ix2 : Expr} {es : List Expr} {k : List D → Prop} {x y z : Str} {pos p p' p'' : Pos} {rest : List Stmt} {D0 : Ed} {scope : Scope} {own : List (Str × Nat)} {put : List En → D → List En → Prop} {is : List Nat} {g : TG}
theorem TkO.of (h : ∀ σ H G, StOk B ρ σ H G → ∃ t : TE, PE B.X e t ∧ t σ H (Ko B G H k)) : TkO B ρ e k := fun σ H G s pins s0 I => by
  obtain ⟨t, p, q⟩ := h σ H G s
  exact p.run pins s0 σ H _ I q
theorem Ko.back {G H G1 H1 : Hp} {v : V} {H' : Hp} (i1 : B.M.I G1 H1) (gr : Gr B.M.W G H G1 H1) (nw : ∀ q, H1 q = none → ¬ B.M.W q → H q = none) (nn : ∀ q, H1 q = none → ¬ B.M.W q) (h : Ko B G1 H1 k v H') : Ko B G H k v H' := by
  obtain ⟨p, xs, ds, G', e, n, hp, gp, g2, i2, ra, hk⟩ := h
  exact ⟨p, xs, ds, G', e, nw p n (nn p n), hp, gp, gr.trans i1 g2, i2, ra, hk⟩
theorem Gr.freeBack {W : Addr → Prop} {G H G1 H1 : Hp} (gr : Gr W G H G1 H1) {q : Addr} (n : H1 q = none) (w : ¬ W q) : H q = none := by
  cases e : H q with
  | none => rfl
  | some o => rw [gr.h q o w e] at n; cases n
/-- name = e, the new list the def's own -/
theorem s_ownE (i : Nat) (h : TkO B ρ e fun ds => Tss B (ρ.set i (.own (.lst ds))) rest D0) (hN : B.X.N.Nodup) (hi : B.X.N[i]? = some x := by rfl) (hx : Loc B.X.env.scope x := by first | exact .inl rfl | exact .inr rfl)
    (hs : swapsWith e (some (.Name x p')) pos.line B.X.env = pure false := by rfl) (hf : B.X.fn x = true ∨ B.X.env.scope.names.lookup x = some .local := by first | exact .inl rfl | exact .inr rfl) :
    Tss B ρ (.Assign [.Name x p'] e pos :: rest) D0 := Tss.of fun kp σ H G s g =>
  ⟨_, ps_set hN hi hx pe_W hs hf, fun pins s0 I => thn (h σ H G s pins s0 I) fun _ _ ⟨v, H', I', r, q, xs, ds, G', ev, n, hq, gq, g', i', ra, hk⟩ => ⟨v, H', I', r, by
    subst ev
    exact hk kp _ _ G' (s.putAt (i := i) n (s.step g' i') hq gq (.lst ra)) (g.trans g'.g)⟩⟩
/-- x, y = e, b: x's new list the def's own -/
theorem s_parOE (i j : Nat) {kt kk pt2 pt} (h : TkO B ρ a fun ds => Tk B ρ b fun d => Tss B ((ρ.set i (.own (.lst ds))).set j (.val d)) rest D0) (hc : B.X.calm = true) (hN : B.X.N.Nodup) (hij : i ≠ j := by decide) (hi : B.X.N[i]? = some x := by rfl) (hj : B.X.N[j]? = some y := by rfl)
    (hx : B.X.env.scope.names.lookup x = some .local := by rfl) (hy : B.X.env.scope.names.lookup y = some .local := by rfl)
    (hw : swappedStores [.Tuple [.Name x p', .Name y p''] kt pt] (.Tuple [a, b] kk pt2) B.X.env = pure (some [x, y]) := by rfl)
    (hs : swapsWithSole [.Tuple [.Name x p', .Name y p''] kt pt] (.Tuple [a, b] kk pt2) pos.line B.X.env = pure false := by rfl)
    (he : starEach [a, b] B.X.env = (false, eval a B.X.env) :: starEach [b] B.X.env := by rfl) (he2 : starEach [b] B.X.env = (false, eval b B.X.env) :: starEach [] B.X.env := by rfl) :
    Tss B ρ (.Assign [.Tuple [.Name x p', .Name y p''] kt pt] (.Tuple [a, b] kk pt2) pos :: rest) D0 := Tss.of fun kp σ H G s gk =>
  ⟨_, ps_par hc hN hi hj hij hx hy (pa_cons pe_W (pa_cons pe_W pa_nil he2) he) hw hs, fun pins s0 I => thn (h σ H G s pins s0 I) fun _ _ ⟨v, H1, I1, r, q, xs, ds, G1, ev, n, hq, gq, g1, i1, ra, hk⟩ => ⟨v, H1, I1, r, by
    subst ev
    have s1 := s.step g1 i1
    refine hk.te s1 fun v2 d2 G2 H2 g2 i2 r2 h2 => ?_
    refine ⟨.ref q, v2, rfl, ?_⟩
    have wq := s.noW n
    have s2 := s1.step g2 i2
    have hq2 := g2.h q _ wq hq
    have gq2 := g2.d q _ hq gq
    exact h2 kp _ _ G2 ((s.putAt (i := i) n s2 hq2 gq2 (.lst (ra.mono g2.g))).put r2) ((gk.trans g1.g).trans g2.g)⟩⟩
/-- (x, y) = (e, b) by a tuple: x's new list the def's own -/
theorem s_tupO (i j : Nat) {kt kk pt2 pt} (h : TkO B ρ a fun ds => Tk B ρ b fun d => Tss B ((ρ.set i (.own (.lst ds))).set j (.val d)) rest D0) (hg : PGs B.X [.Name x p', .Name y p''] (gNames [i, j])) (hc : B.X.calm = true)
    (hn : (assignEach [.Name x p', .Name y p''] B.X.env).length = 2 := by rfl) (hst : (assignEach [.Name x p', .Name y p''] B.X.env).findIdx? (·.1) = none := by rfl)
    (hs : swapsWithSole [.Tuple [.Name x p', .Name y p''] kt pt] (.Tuple [a, b] kk pt2) pos.line B.X.env = pure false := by rfl) (hw : swappedStores [.Tuple [.Name x p', .Name y p''] kt pt] (.Tuple [a, b] kk pt2) B.X.env = pure none := by rfl)
    (h1 : (assignEach [.Tuple [.Name x p', .Name y p''] kt pt] B.X.env).map (·.2) = [assign (.Tuple [.Name x p', .Name y p''] kt pt) B.X.env] := by rfl)
    (he : starEach [a, b] B.X.env = (false, eval a B.X.env) :: starEach [b] B.X.env := by rfl) (he2 : starEach [b] B.X.env = (false, eval b B.X.env) :: starEach [] B.X.env := by rfl) :
    Tss B ρ (.Assign [.Tuple [.Name x p', .Name y p''] kt pt] (.Tuple [a, b] kk pt2) pos :: rest) D0 := Tss.of fun kp σ H G s gk =>
  ⟨_, ps_asg (pe_tup (pa_cons pe_W (pa_cons pe_W pa_nil he2) he)) (pg_tup (n := 2) hc hg hn hst) hs hw h1, fun pins s0 I => thn (h σ H G s pins s0 I) fun _ _ ⟨v, H1, I1, r, q, xs, ds, G1, ev, n, hq, gq, g1, i1, ra, hk⟩ => ⟨v, H1, I1, r, by
    subst ev
    have s1 := s.step g1 i1
    refine hk.te s1 fun v2 d2 G2 H2 g2 i2 r2 h2 => ?_
    have wq := s.noW n
    have s2 := s1.step g2 i2
    have hq2 := g2.h q _ wq hq
    have gq2 := g2.d q _ hq gq
    refine ⟨by show 2 ≤ sizeLine; decide, fun T hT => ?_⟩
    obtain ⟨gb, ib⟩ := s2.beside (o := .tup [.ref q, v2]) hT
    have s3 := s2.step gb ib
    have hqT : q ≠ T := fun z => by rw [z, hT] at hq2; cases hq2
    refine ⟨T, [.ref q, v2], rfl, SqT.of upd_same, rfl, .ref q, [v2], rfl, ?_⟩
    refine ⟨v2, [], rfl, rfl, ?_⟩
    exact h2 kp _ _ G2 ((s.putAt (i := i) n s3 (by rw [upd_ne hqT]; exact hq2) gq2 (.lst (ra.mono g2.g))).put r2) ((gk.trans g1.g).trans g2.g)⟩⟩
/-- a * n, a a list -/
theorem tko_mul (h : Tk B ρ a fun d => ∃ ds, d = .lst ds ∧ Tk B ρ b fun y => ∃ n : Int, y = .int n ∧ -(2 ^ 63) ≤ n ∧ n < 2 ^ 63 ∧ ds.length * n.toNat ≤ sizeLine ∧ k (List.replicate n.toNat ds).flatten) : TkO B ρ (.BinOp a .Mult b pos) k := TkO.of fun σ H G s =>
  ⟨_, pe_op op_rep pe_W pe_W, h.te s fun v d G1 H1 g1 i1 r1 h1 => by
    obtain ⟨ds, rfl, h1⟩ := h1
    have s1 := s.step g1 i1
    refine Tk.te h1 s1 fun v2 d2 G2 H2 g2 i2 r2 h2 => ?_
    obtain ⟨n, rfl, n1, n2, n3, hk⟩ := h2
    have s2 := s1.step g2 i2
    obtain ⟨q, xs, rfl, hq, ra⟩ := (r1.mono g2.g).lstI
    have gg := g1.trans i1 g2
    refine ⟨q, n, xs, rfl, r2.intI, s2.gr.s _ _ hq, n1, n2, by rw [ra.length]; exact n3, fun p hp => ?_⟩
    have wp := s2.noW hp
    have gp : G2 p = none := s2.gr.s.free hp
    obtain ⟨gb, ib⟩ := s2.beside (o := .lst (List.replicate n.toNat xs).flatten) hp
    exact ⟨p, _, _, G2, rfl, gg.freeBack hp wp, upd_same, gp, gg.trans i2 gb, ib, rep_flatten ra _, hk⟩⟩
/-- the loop of a comprehension of drawn items, its list not yet let go -/
theorem lcP_inv {R : D → D → Prop} {σ : L2.St} {G1 H1 : Hp} {p : Addr} {ds : List D} {xs : List V} (s : StOk B ρ σ H1 G1) (ra : RepAll B.X.K B.S G1 xs ds) (hp : H1 p = none) (hsz : ds.length < sizeLine) (h : ∀ d ∈ ds, TurnR B scope (wipeR ρ (own.map (·.2))) put elt R d)
    (td : TgD B.X.K g put is) (hi : ∀ i ∈ is, i ∈ own.map (·.2)) :
    ∃ Pv : Nat → Hp → Prop, Pv 0 (upd H1 p (.lst [])) ∧ (∀ i H, Pv i H → Same G1 H) ∧
      (∀ i v H, xs[i]? = some v → Pv i H → g v (wipe σ (own.map (·.2))) H fun σ2 H2 => wipe σ2 (own.map (·.2)) = wipe σ (own.map (·.2)) ∧ tIfs B.X scope [] σ2 H2 fun b H3 => if b = true then tWB B.X scope elt σ2 H3 fun y H4 => ∃ acc, H4 p = some (.lst acc) ∧ acc.length < sizeLine ∧ Pv (i + 1) (upd H4 p (.lst (acc ++ [y]))) else Pv (i + 1) H3) ∧
      ∀ H, Pv xs.length H → ∃ G acc es, Gr B.M.W G1 H1 G H ∧ B.M.I G H ∧ StOk B ρ σ H G ∧ H p = some (.lst acc) ∧ G p = none ∧ RepAll B.X.K B.S G acc es ∧ All2 R ds es := by
  have gp : G1 p = none := s.gr.s.free hp
  have wp : ¬ B.M.W p := fun w => by
    obtain ⟨_, o', e⟩ := B.M.nn s.inv w
    rw [hp] at e; cases e
  refine ⟨fun i H => ∃ G acc es, Gr B.M.W G1 H1 G H ∧ B.M.I G H ∧ StOk B ρ σ H G ∧ H p = some (.lst acc) ∧ G p = none ∧ RepAll B.X.K B.S G acc es ∧ All2 R (ds.take i) es ∧ i ≤ ds.length, ?_, fun i H ⟨G, acc, es, gr, _⟩ => gr.g.trans gr.s, fun i v H hv ⟨G, acc, es, gr, iv, so, hpa, gpa, rca, hac, hil⟩ => ?_, fun H ⟨G, acc, es, gr, iv, so, hpa, gpa, rca, hac, hil⟩ => ?_⟩
  · have hs : Same H1 (upd H1 p (.lst [])) := same_new hp
    have g1 : Gr B.M.W G1 H1 G1 (upd H1 p (.lst [])) := ⟨.refl _, s.gr.s.trans hs, fun b o _ q => hs b o q, fun _ _ _ n => n⟩
    have i1 : B.M.I G1 (upd H1 p (.lst [])) := B.M.st s.inv (.refl _) (s.gr.s.trans hs) (fun b w => (B.M.nn s.inv w).1) fun b o _ q => hs b o q
    exact ⟨G1, [], [], g1, i1, s.step g1 i1, upd_same, gp, .nil, .nil, Nat.zero_le _⟩
  · obtain ⟨d, hd, rd⟩ := ra.getV hv
    have hlt : i < ds.length := (List.getElem?_eq_some_iff.mp hd).1
    have htake : ds.take (i + 1) = ds.take i ++ [d] := by
      rw [List.take_add_one, hd]; rfl
    obtain ⟨ρ', hput, ht⟩ := h d (List.mem_of_getElem? hd)
    refine td.run rfl hput (so.wipe (own.map (·.2))) (rd.mono gr.g) fun σ' s' hw => ⟨by rw [hw _ hi, wipe_twice], ?_⟩
    refine tifs_yes ?_
    intro sh Hb C cl fp
    refine (ht sh Hb C cl fp).te s'.blk fun y z G' H' g' i' ry hR => ?_
    have gg : Gr B.M.W G1 H1 G' H' := gr.trans iv g'
    have hl2 : acc.length = i := by
      have := hac.length
      rw [List.length_take, Nat.min_eq_left hil] at this
      rw [rca.length, ← this]
    have hs : Same G' (upd H' p (.lst (acc ++ [y]))) := fun b o q => by
      rw [upd_ne (ne_of_none q (g'.d _ _ hpa gpa))]
      exact g'.s b o q
    have g2 : Gr B.M.W G1 H1 G' (upd H' p (.lst (acc ++ [y]))) := ⟨gg.g, hs, fun b o w q => by
      rw [upd_ne (ne_of_none q hp)]
      exact gg.h b o w q, gg.d⟩
    have i2 : B.M.I G' (upd H' p (.lst (acc ++ [y]))) := B.M.st i' (.refl _) hs (fun b w => (B.M.nn i' w).1) fun b o w q => by
      rw [upd_ne (show b ≠ p from fun z => wp (by rw [← z]; exact w))]
      exact q
    exact ⟨acc, g'.h _ _ wp hpa, by omega, G', acc ++ [y], es ++ [z], g2, i2, s.step g2 i2, upd_same, g'.d _ _ hpa gpa, (rca.mono g'.g).append (.one ry), by rw [htake]; exact hac.snoc hR, hlt⟩
  · have hds : xs.length = ds.length := ra.length
    rw [hds, List.take_length] at hac
    exact ⟨G, acc, es, gr, iv, so, hpa, gpa, rca, hac⟩
/-- [elt for tg in a list] -/
theorem tko_lc (own : List (Str × Nat)) (g : TG) {R : D → D → Prop} (td : TgD B.X.K g put is) (hi : ∀ i ∈ is, i ∈ own.map (·.2))
    (h : Tk B ρ iter (kSeq fun ds => ds.length < sizeLine ∧ (∀ d ∈ ds, TurnR B scope (wipeR ρ (own.map (·.2))) put elt R d) ∧ ∀ es, All2 R ds es → k es)) (hc : B.X.calm = true) (hN : B.X.N.Nodup) (ok : BlkOk B.X.N B.X.env.scope scope own)
    (hg : ∀ (s : Shared) (H : Hp) (C : Addr) (cl : List (Str × Addr)) (fp : List Addr), PG (B.X.blk s H scope (compEnvC scope cl C B.X.env) fp) tg g)
    (hfs : ∀ x, foldedSetIterable iter B.X.env x = pure x := by intro _; rfl) : TkO B ρ (.ListComp elt [⟨tg, iter, [], 0⟩] scope pos) k := TkO.of fun σ H G s =>
  ⟨_, pe_lc (te := tWB B.X scope elt) (tt := tIfs B.X scope []) hc hN (pi_list pe_W) ok hg (pts_W (Nat.zero_le _)) (fun s' H' C cl fp => ⟨fun pins s0 σ H Q I h => h s' H' C cl fp pins s0 I⟩) hfs, h.te s fun v d G1 H1 g1 i1 r1 h1 => by
    obtain ⟨a, xs, ds, rfl, ha, ra, hz, h2, hk⟩ := r1.seqI h1
    have s1 := s.step g1 i1
    refine ⟨a, rfl, ⟨xs, Same.seq s1.gr.s ha⟩, fun p hp => ?_⟩
    have wp := s1.noW hp
    obtain ⟨Pv, p0, pS, pt, pd⟩ := lcP_inv s1 ra hp hz h2 td hi
    exact lc_list (K := B.X.K) (a := a) (xs := xs) (g := g) (tt := tIfs B.X scope []) (te := tWB B.X scope elt) (vs := own.map (·.2)) (σ := σ) Pv p0 (fun i H _ q => Same.seq (pS i H q) ha) (fun i x H hx q => pt i x H hx q) fun H' q => show Ko B G H k (.ref p) H' from by
      obtain ⟨G', acc, es, gr, iv, so, hpa, gpa, rca, hac⟩ := pd H' q
      exact ⟨p, acc, es, G', rfl, g1.freeBack hp wp, hpa, gpa, g1.trans i1 gr, iv, rca, hk es hac⟩⟩
/-- x[i1], x[i2] = e1, e2, x an own list -/
theorem s_swap (j : Nat) {q0 : Option Addr} {ds : List D} {np1 np2 tp1 tp2 : Pos} {kt kk pt pt2} (hr : ρ[j]? = some (.ow q0 (.lst ds)))
    (h : Ta B ρ [e1, e2] (k2 fun d1 d2 => Tk B ρ ix1 fun y1 => ∃ (k1 : Int) (i1 : Nat), y1 = .int k1 ∧ ixN ds.length k1 = some i1 ∧ Tk B (ρ.set j (.ow q0 (.lst (ds.set i1 d1)))) ix2 fun y2 => ∃ (k2 : Int) (i2 : Nat), y2 = .int k2 ∧ ixN ds.length k2 = some i2 ∧ Tss B (ρ.set j (.ow q0 (.lst ((ds.set i1 d1).set i2 d2)))) rest D0))
    (hc : B.X.calm = true) (hN : B.X.N[j]? = some x := by rfl) (hv : Vis B.X.env.scope x := by first | exact Or.inl rfl | exact Or.inr (Or.inl rfl) | exact Or.inr (Or.inr rfl))
    (hd : (x == ("__debug__" : Str)) = false := by decide) (hcd : (x == ("__classdict__" : Str)) = false := by decide)
    (ha1 : ∀ v, assign (.Subscript (.Name x np1) ix1 tp1) B.X.env v = (do
      let ov ← holding [v] (eval (.Name x np1) B.X.env)
      let iv ← holding [v, ov] (eval ix1 B.X.env)
      standAt tp1
      holding [v, ov, iv] (setItem ov iv v)
      release [v, ov, iv] []) := by intro _; rfl)
    (ha2 : ∀ v, assign (.Subscript (.Name x np2) ix2 tp2) B.X.env v = (do
      let ov ← holding [v] (eval (.Name x np2) B.X.env)
      let iv ← holding [v, ov] (eval ix2 B.X.env)
      standAt tp2
      holding [v, ov, iv] (setItem ov iv v)
      release [v, ov, iv] []) := by intro _; rfl)
    (hn : (assignEach [.Subscript (.Name x np1) ix1 tp1, .Subscript (.Name x np2) ix2 tp2] B.X.env).length = 2 := by rfl) (hst : (assignEach [.Subscript (.Name x np1) ix1 tp1, .Subscript (.Name x np2) ix2 tp2] B.X.env).findIdx? (·.1) = none := by rfl)
    (hs : swapsWithSole [.Tuple [.Subscript (.Name x np1) ix1 tp1, .Subscript (.Name x np2) ix2 tp2] kt pt] (.Tuple [e1, e2] kk pt2) pos.line B.X.env = pure false := by rfl)
    (hw : swappedStores [.Tuple [.Subscript (.Name x np1) ix1 tp1, .Subscript (.Name x np2) ix2 tp2] kt pt] (.Tuple [e1, e2] kk pt2) B.X.env = pure none := by rfl)
    (h1 : (assignEach [.Tuple [.Subscript (.Name x np1) ix1 tp1, .Subscript (.Name x np2) ix2 tp2] kt pt] B.X.env).map (·.2) = [assign (.Tuple [.Subscript (.Name x np1) ix1 tp1, .Subscript (.Name x np2) ix2 tp2] kt pt) B.X.env] := by rfl) :
    Tss B ρ (.Assign [.Tuple [.Subscript (.Name x np1) ix1 tp1, .Subscript (.Name x np2) ix2 tp2] kt pt] (.Tuple [e1, e2] kk pt2) pos :: rest) D0 := Tss.of fun kp σ H G s g => by
  refine ⟨_, ps_asg (pe_tup pa_W) (pg_tup (n := 2) hc (pgs_cons (pg_sub (pe_var hN hv hd hcd) pe_W set_list ha1) (pgs_cons (pg_sub (pe_var hN hv hd hcd) pe_W set_list ha2) pgs_nil)) hn hst) hs hw h1, h.ta s fun vs es G1 H1 g1 i1 r1 q1 => ?_⟩
  rcases es with _ | ⟨d1, _ | ⟨d2, _ | ⟨d3, r⟩⟩⟩
  · exact q1.elim
  · exact q1.elim
  · obtain ⟨v1, v2, rfl, rv1, rv2⟩ := repAll2 r1
    have s1 := s.step g1 i1
    refine ⟨by show 2 ≤ sizeLine; decide, fun T hT => ?_⟩
    obtain ⟨gb, ib⟩ := s1.beside (o := .tup [v1, v2]) hT
    have sb := s1.step gb ib
    have gT : G1 T = none := s1.gr.s.free hT
    refine ⟨T, [v1, v2], rfl, SqT.of upd_same, rfl, v1, [v2], rfl, ?_⟩
    obtain ⟨q, ob, eq1, eq2, gp, h0, hw', t, _⟩ := sb.ow j _ _ hr
    have q1' : Tk B ρ ix1 _ := q1
    refine ⟨.ref q, eq1, q1'.te sb fun w1 y1 G2 H2 g2 i2 ry1 z1 => ?_⟩
    obtain ⟨k1, n1, rfl, hk1, z2⟩ := z1
    have s2 := sb.step g2 i2
    cases t with
    | @lst xs _ ra =>
      refine ⟨q, xs, k1, n1, rfl, ry1.intI, g2.h _ _ hw' eq2, by rw [ra.length]; exact hk1, ?_⟩
      have s3 := s2.change hr eq1 (.lst ((ra.mono g2.g).set ((rv1.mono gb.g).mono g2.g) n1))
      obtain ⟨p3, o3, f1, f2, f3, f4, f5, f6, _⟩ := s3.ow j _ _ (List.getElem?_set_self (List.getElem?_eq_some_iff.mp hr).1)
      refine ⟨v2, [], rfl, .ref p3, f1, z2.te s3 fun w2 y2 G4 H4 g4 i4 ry2 z3 => ?_⟩
      obtain ⟨k2, n2, rfl, hk2, z4⟩ := z3
      have s4 := s3.step g4 i4
      cases f6 with
      | @lst xs2 _ ra2 =>
        refine ⟨p3, xs2, k2, n2, rfl, ry2.intI, g4.h _ _ f5 f2, by rw [ra2.length, List.length_set]; exact hk2, rfl, ?_⟩
        have s5 := s4.change (List.getElem?_set_self (List.getElem?_eq_some_iff.mp hr).1) f1 (.lst ((ra2.mono g4.g).set (((rv2.mono gb.g).mono g2.g).mono g4.g) n2))
        rw [List.set_set] at s5
        exact z4 kp _ _ G4 s5 ((((g.trans g1.g).trans gb.g).trans g2.g).trans g4.g)
  · exact q1.elim
/-- a comprehension's loop over two lists side by side -/
theorem lcZ_inv {ifs : List Expr} {σ : L2.St} {G1 H1 : Hp} {p : Addr} {ds : List D} {rs : List (Option D)} {k : D → Prop} {xs ys : List V} {dx dy : List D} (s : StOk B ρ σ H1 G1) (ra : RepAll B.X.K B.S G1 xs dx) (rb : RepAll B.X.K B.S G1 ys dy) (hxy : dx.length = dy.length) (eds : ds = (dx.zip dy).map fun p => D.tup [p.1, p.2]) (hp : H1 p = none) (hsz : ds.length < sizeLine) (h : All2 (LcTurn B scope (wipeR ρ (own.map (·.2))) put ifs elt) ds rs) (hk : k (.lst (rs.filterMap id)))
    (td : TgD B.X.K g put is) (hi : ∀ i ∈ is, i ∈ own.map (·.2)) :
    ∃ Pv : Nat → Hp → Prop, Pv 0 (upd H1 p (.lst [])) ∧ (∀ i H, Pv i H → ∃ G, Gr B.M.W G1 H1 G H) ∧
      (∀ i x y T H, xs[i]? = some x → ys[i]? = some y → Pv i H → H T = none → g (.ref T) (wipe σ (own.map (·.2))) (upd H T (.tup [x, y])) fun σ2 H2 => wipe σ2 (own.map (·.2)) = wipe σ (own.map (·.2)) ∧ tIfs B.X scope ifs σ2 H2 fun b H3 => if b = true then tWB B.X scope elt σ2 H3 fun y H4 => ∃ acc, H4 p = some (.lst acc) ∧ acc.length < sizeLine ∧ Pv (i + 1) (upd H4 p (.lst (acc ++ [y]))) else Pv (i + 1) H3) ∧
      ∀ H, Pv xs.length H → Kd B G1 H1 k (.ref p) H := by
  have gp : G1 p = none := s.gr.s.free hp
  have wp : ¬ B.M.W p := fun w => by
    obtain ⟨_, o', e⟩ := B.M.nn s.inv w
    rw [hp] at e; cases e
  have hdl : ds.length = dx.length := by rw [eds, List.length_map, List.length_zip, hxy, Nat.min_self]
  have hlen : xs.length = rs.length := ra.length.trans (hdl.symm.trans h.length)
  refine ⟨fun i H => ∃ G acc, Gr B.M.W G1 H1 G H ∧ B.M.I G H ∧ StOk B ρ σ H G ∧ H p = some (.lst acc) ∧ G p = none ∧ RepAll B.X.K B.S G acc ((rs.take i).filterMap id) ∧ acc.length ≤ i, ?_, fun i H ⟨G, acc, gr, _⟩ => ⟨G, gr⟩, fun i x y T H hx hy ⟨G, acc, gr, iv, so, hpa, gpa, rca, hac⟩ hT => ?_, fun H ⟨G, acc, gr, iv, so, hpa, gpa, rca, hac⟩ => ?_⟩
  · have hs : Same H1 (upd H1 p (.lst [])) := same_new hp
    have g1 : Gr B.M.W G1 H1 G1 (upd H1 p (.lst [])) := ⟨.refl _, s.gr.s.trans hs, fun b o _ q => hs b o q, fun _ _ _ n => n⟩
    have i1 : B.M.I G1 (upd H1 p (.lst [])) := B.M.st s.inv (.refl _) (s.gr.s.trans hs) (fun b w => (B.M.nn s.inv w).1) fun b o _ q => hs b o q
    exact ⟨G1, [], g1, i1, s.step g1 i1, upd_same, gp, .nil, Nat.le_refl _⟩
  · obtain ⟨d1, hd1, rd1⟩ := ra.getV hx
    obtain ⟨d2, hd2, rd2⟩ := rb.getV hy
    have hd : ds[i]? = some (.tup [d1, d2]) := by
      rw [eds, List.getElem?_map, (List.getElem?_zip_eq_some (z := (d1, d2))).mpr ⟨hd1, hd2⟩]
      rfl
    obtain ⟨r, hr, ht⟩ := h.get hd
    have pT : p ≠ T := fun z => by
      rw [z, hT] at hpa
      cases hpa
    obtain ⟨g0, i0⟩ := (Gr.new (o := .tup [x, y]) so.gr.s hT).up iv
    have gr := gr.trans iv g0
    have so := so.step g0 i0
    have rca := rca.mono g0.g
    have hpa : upd H T (.tup [x, y]) p = some (.lst acc) := by rw [upd_ne pT]; exact hpa
    have gpa : upd G T (.tup [x, y]) p = none := by rw [upd_ne pT]; exact gpa
    have iv := i0
    have rd : Rep B.X.K B.S (upd G T (.tup [x, y])) (.ref T) (.tup [d1, d2]) := .tup (xs := [x, y]) (SqT.of upd_same) (.cons ((rd1.mono gr.g)) (.cons (rd2.mono gr.g) .nil))
    have htake : rs.take (i + 1) = rs.take i ++ [r] := by
      rw [List.take_add_one, hr]; rfl
    have hil : i < ds.length := (List.getElem?_eq_some_iff.mp hd).1
    refine lc_turn td hi ht so rd hpa gpa wp rca (by omega) (fun G' H' g' i' er => ?_) (fun G' H' y x g' i' er ry => ?_)
    · refine ⟨G', acc, gr.trans iv g', i', so.step g' i', g'.h _ _ wp hpa, g'.d _ _ hpa gpa, ?_, by omega⟩
      rw [htake, List.filterMap_append, er]
      show RepAll B.X.K B.S G' acc (_ ++ [])
      rw [List.append_nil]
      exact rca.mono g'.g
    · have hs : Same G' (upd H' p (.lst (acc ++ [y]))) := fun b o q => by
        rw [upd_ne (ne_of_none q (g'.d _ _ hpa gpa))]
        exact g'.s b o q
      have gg := gr.trans iv g'
      have g2 : Gr B.M.W G1 H1 G' (upd H' p (.lst (acc ++ [y]))) := ⟨gg.g, hs, fun b o w q => by
        rw [upd_ne (ne_of_none q hp)]
        exact gg.h b o w q, gg.d⟩
      have i2 : B.M.I G' (upd H' p (.lst (acc ++ [y]))) := B.M.st i' (.refl _) hs (fun b w => (B.M.nn i' w).1) fun b o w q => by
        rw [upd_ne (show b ≠ p from fun z => wp (by rw [← z]; exact w))]
        exact q
      refine ⟨G', acc ++ [y], g2, i2, s.step g2 i2, upd_same, g'.d _ _ hpa gpa, ?_, by rw [List.length_append, List.length_singleton]; omega⟩
      rw [htake, List.filterMap_append, er]
      exact (rca.mono g'.g).append (.one ry)
  · rw [hlen, List.take_length] at rca
    have hg : Same G (upd G p (.lst acc)) := same_new gpa
    have hs : Same (upd G p (.lst acc)) H := fun b o q => by
      by_cases hb : b = p
      · subst hb
        rw [upd_same] at q
        cases q
        exact hpa
      · rw [upd_ne hb] at q
        exact gr.s b o q
    refine ⟨_, upd G p (.lst acc), ⟨gr.g.trans hg, hs, gr.h, fun b o q n => ?_⟩, B.M.st iv hg hs (fun b w => ?_) (fun b o _ q => q), .obj upd_same (.lst (rca.mono hg)), hk⟩
    · rw [upd_ne (ne_of_none q hp)]
      exact gr.d b o q n
    · rw [upd_ne (show b ≠ p from fun z => wp (by rw [← z]; exact w))]
      exact (B.M.nn iv w).1
/-- .. over zip -/
theorem lc_zip {K : PySem.W.Frag} {a b : Addr} {xs ys : List V} {g : TG} {tt : TT} {te : TE} {vs : List Nat} {σ : L2.St} {H1 : Hp} {D : Addr} {Qd : Hp → Prop} (hl : xs.length = ys.length) (Pv : Nat → Hp → Prop) (h0 : Pv 0 (upd H1 D (.lst []))) (hq : ∀ i H, Pv i H → SqL K H a xs ∧ SqL K H b ys)
    (hs : ∀ i x y T H, xs[i]? = some x → ys[i]? = some y → Pv i H → H T = none → g (.ref T) (wipe σ vs) (upd H T (.tup [x, y])) fun σ2 H2 => wipe σ2 vs = wipe σ vs ∧ tt σ2 H2 fun b H3 =>
      if b = true then te σ2 H3 fun y H4 => ∃ acc, H4 D = some (.lst acc) ∧ acc.length < sizeLine ∧ Pv (i + 1) (upd H4 D (.lst (acc ++ [y]))) else Pv (i + 1) H3) (hd : ∀ H, Pv xs.length H → Qd H) :
    ∃ W : Nat → Nat → Hp → Prop, (∃ m, W 0 m (upd H1 D (.lst []))) ∧ ∀ i m H, W i m H →
      ((Itz K a b).stop i H ∧ Qd H) ∨ ((Itz K a b).go i H ∧ ∃ Nx : Hp → Prop, (∀ H', Nx H' → ∃ m', m' < m ∧ W (i + 1) m' H') ∧ ∀ x H', (Itz K a b).yld i H x H' → g x (wipe σ vs) H' fun σ2 H2 => wipe σ2 vs = wipe σ vs ∧ tt σ2 H2 fun b H3 =>
        if b = true then te σ2 H3 fun y H4 => ∃ acc, H4 D = some (.lst acc) ∧ acc.length < sizeLine ∧ Nx (upd H4 D (.lst (acc ++ [y]))) else Nx H3) := by
  refine ⟨fun i m H => m = xs.length - i ∧ i ≤ xs.length ∧ Pv i H, ⟨xs.length, by simp, Nat.zero_le _, h0⟩, ?_⟩
  rintro i m H ⟨rfl, hi, p⟩
  obtain ⟨qx, qy⟩ := hq i H p
  by_cases hlt : i < xs.length
  · have hx : xs[i]? = some xs[i] := List.getElem?_eq_getElem hlt
    have hlt2 : i < ys.length := by omega
    have hy : ys[i]? = some ys[i] := List.getElem?_eq_getElem hlt2
    refine .inr ⟨⟨xs, ys, _, _, qx, qy, hx, hy⟩, Pv (i + 1), fun H' p' => ⟨xs.length - (i + 1), by omega, rfl, hlt, p'⟩, fun v H' y => ?_⟩
    obtain ⟨T, x', y', rfl, hT, rfl, f1, f2⟩ := y
    exact hs i x' y' T H (f1 xs qx) (f2 ys qy) p hT
  · have e : i = xs.length := by omega
    subst e
    exact .inl ⟨⟨xs, ys, qx, qy, Or.inl (Nat.le_refl _)⟩, hd H p⟩
theorem lci_zip {k : D → Prop} {elts : List Expr} {kk : Nat} {tpos pz pc : Pos} (td : TgD B.X.K g put is) (hi : ∀ i ∈ is, i ∈ own.map (·.2))
    (h : Ta B ρ [a, b] (k2 fun d1 d2 => ∃ dx dy, d1 = .lst dx ∧ d2 = .lst dy ∧ dx.length = dy.length ∧ dx.length < sizeLine ∧ ∃ rs, All2 (LcTurn B scope (wipeR ρ (own.map (·.2))) put [] elt) ((dx.zip dy).map fun p => D.tup [p.1, p.2]) rs ∧ k (.lst (rs.filterMap id)))) (hm : B.X.mg "zip" = none)
    (hg : Gl B.X "zip" := by rfl) (hs : starEach [a, b] B.X.env = (false, eval a B.X.env) :: starEach [b] B.X.env := by rfl) (hpl : (backTo pc (starEach [b] B.X.env)).any (·.1) = false := by rfl) : LcI B ρ (.Tuple elts kk tpos) (.Call (.Name "zip" pz) [a, b] [] pc) [] elt scope own g k :=
  ⟨_, pi_zip hg hm pa_W hs hpl, fun σ H G s Q qf => h.ta s fun vs ds G1 H1 g1 i1 r1 h1 => by
    rcases ds with _ | ⟨d1, _ | ⟨d2, _ | ⟨d3, r⟩⟩⟩
    · exact h1.elim
    · exact h1.elim
    · obtain ⟨dx, dy, rfl, rfl, hxy, hz, rs, h2, hk⟩ := h1
      obtain ⟨v1, v2, rfl, rv1, rv2⟩ := repAll2 r1
      have s1 := s.step g1 i1
      obtain ⟨p1, xs, rfl, hx, ra⟩ := rv1.lstI
      obtain ⟨p2, ys, rfl, hy, rb⟩ := rv2.lstI
      refine ⟨p1, p2, xs, ys, rfl, SqL.of (s1.gr.s _ _ hx), SqL.of (s1.gr.s _ _ hy), fun p hp => ?_⟩
      obtain ⟨Pv, p0, pS, pt, pd⟩ := lcZ_inv s1 ra rb hxy rfl hp (by rw [List.length_map, List.length_zip, hxy, Nat.min_self, ← hxy]; exact hz) h2 hk td hi
      exact lc_zip (K := B.X.K) (a := p1) (b := p2) (xs := xs) (ys := ys) (g := g) (tt := tIfs B.X scope []) (te := tWB B.X scope elt) (vs := own.map (·.2)) (σ := σ) (by rw [ra.length, rb.length, hxy]) Pv p0 (fun i H q => by
        obtain ⟨G', g'⟩ := pS i H q
        exact ⟨SqL.of (g'.s _ _ (g'.g _ _ hx)), SqL.of (g'.s _ _ (g'.g _ _ hy))⟩) (fun i x y T H hx hy q hT => pt i x y T H hx hy q hT) fun H q => qf _ _ (Kd.back i1 g1 (pd H q))
    · exact h1.elim⟩
end
end Fz
/-! dicts whose keys are tuples of any depth (bools too): rules by the hand layer's ext objects -/
namespace Fz
open PySem PySem.Spec PyProof.Rows L2
theorem fx_ne (o : Obj) : ∃ u : Obj, u.isFreed = false ∧ u ≠ o := by
  by_cases h : o = { cls := .none, data := .fields #[] }
  · exact ⟨{ cls := .bool true, data := .fields #[] }, rfl, fun z => by rw [h] at z; injection z with z1; cases z1⟩
  · exact ⟨{ cls := .none, data := .fields #[] }, rfl, fun z => h z.symm⟩
section
variable {X : Cx} {pins : List (Addr × Obj)} {σ : L2.St} {H G : Hp} {s : Shared} {S : Addr}
theorem inv_fx {a b : Addr} {o : Obj} (I : Inv X pins σ H s) (h : H a = some (FxO b o)) : b = a ∧ s.heap.get? a = some o := by
  have x : ObjOk X.prog X.w H s.heap a (.ext fun h => h.get? b = some o) := I.hok a _ h
  obtain ⟨h1, ⟨o', h2⟩, h3⟩ := x
  by_cases e : b = a
  · exact ⟨e, by rw [← e]; exact h1⟩
  · exfalso
    obtain ⟨u, hu, hne⟩ := fx_ne o
    have q : (s.heap.update b fun _ => u).get? b = some o := h3 s.heap (s.heap.update b fun _ => u) h1 fun q hq => by rw [Heap.get?_update_other _ _ e]; exact hq
    rw [Heap.get?_update_self (fun _ => u) h1 hu] at q
    exact hne (Option.some.inj q)
mutual
theorem nk_is (I : Inv X pins σ H s) (e : Same G H) : ∀ (d : D) (v : V) (u : Value), keyD d = true → Rep X.K S G v d → RelV v u → NestedIs s.heap (nkD d) u
  | .non, v, u, _, r, q => by
    rw [r.nonI] at q
    cases (show u = Value.none from q)
    show NestedIs s.heap NestedKey.none Value.none
    exact .none
  | .int i, v, u, _, r, q => by
    rw [r.intI] at q
    obtain ⟨t, rfl⟩ := q
    rw [nkD]
    exact .int _ t
  | .bl b, v, u, _, r, q => by
    rw [r.blI] at q
    cases (show u = Value.bool b from q)
    rw [nkD]
    exact .bool rfl
  | .str x, v, u, _, r, q => by
    rw [r.strI] at q
    obtain ⟨t, rfl⟩ := q
    rw [nkD]
    exact .text _ t
  | .tup ds, v, u, h, r, q => by
    obtain ⟨a, xs, rfl, hs, ra⟩ := r.tupI
    cases (show u = Value.ref a from q)
    obtain ⟨its, rv, ⟨o, ho, hc, n, hd⟩, _⟩ := I.tuple (same_seqT e hs)
    rw [nkD]
    rw [keyD] at h
    exact .tup ho hc hd (nk_all I e ds xs its h ra rv)
  | .ref _, _, _, h, _, _ => by cases (show false = true from h)
  | .lst _, _, _, h, _, _ => by cases (show false = true from h)
  | .rdl _, _, _, h, _, _ => by cases (show false = true from h)
  | .dct _ _, _, _, h, _, _ => by cases (show false = true from h)
  | .ins _ _ _, _, _, h, _, _ => by cases (show false = true from h)
  | .ndc _ _ _, _, _, h, _, _ => by cases (show false = true from h)
theorem nk_all (I : Inv X pins σ H s) (e : Same G H) : ∀ (ds : List D) (xs : List V) (us : List Value), keyL ds = true → RepAll X.K S G xs ds → Vals xs us → NestedAll s.heap (nkL ds) us
  | [], xs, us, _, r, q => by
    cases r
    cases q
    rw [nkL]
    exact .nil
  | d :: ds, xs, us, h, r, q => by
    rw [keyL, Bool.and_eq_true] at h
    cases r with
    | cons r1 r2 =>
      cases q with
      | cons q1 q2 =>
        rw [nkL]
        exact .cons (nk_is I e d _ _ h.1 r1 q1) (nk_all I e ds _ _ h.2 r2 q2)
end
/-- a tuple's address is the key k, whatever holds the heap -/
def NKey (X : Cx) (H : Hp) (k : NestedKey) (b : Addr) : Prop := ∀ (pins : List (Addr × Obj)) (σ : L2.St) (s : Shared), Inv X pins σ H s → (nestedKind X.prog X.w).is s.heap k b
theorem keyT_nk {d : D} (h : keyT d = true) : ∃ ds, d = .tup ds ∧ keyD d = true ∧ (nkD d).depth ≤ 8 := by
  cases d with
  | tup ds =>
    obtain ⟨h1, h2⟩ := Bool.and_eq_true_iff.mp h
    exact ⟨ds, rfl, by rw [keyD]; exact h1, by rw [nkD]; exact of_decide_eq_true h2⟩
  | _ => cases h
theorem nkey_of (e : Same G H) {d : D} {v : V} (h : keyT d = true) (r : Rep X.K S G v d) : ∃ b, v = .ref b ∧ NKey X H (nkD d) b := by
  obtain ⟨ds, rfl, h1, h2⟩ := keyT_nk h
  obtain ⟨a, xs, rfl, hs, ra⟩ := id r.tupI
  exact ⟨a, rfl, fun pins σ s I => ⟨nk_is I e _ _ (.ref a) h1 r rfl, h2⟩⟩
/-- a dict that stands at a -/
def NDict (X : Cx) (H : Hp) (a : Addr) (kvs : List (NestedKey × Addr × V)) : Prop := ∃ b o, H a = some (FxO b o) ∧ NdAt X.w b o kvs ∧ ∀ p ∈ kvs, NKey X H p.1 p.2.1
abbrev NPair (p : NestedKey × Addr × V) (q : NestedKey × Addr × Value) : Prop := p.1 = q.1 ∧ p.2.1 = q.2.1 ∧ RelV p.2.2 q.2.2
theorem paired_mem {α β : Type} {R : α → β → Prop} {l : List α} {m : List β} (h : Paired R l m) : ∀ y ∈ m, ∃ x ∈ l, R x y := by
  induction h with
  | nil => exact fun y h => (nomatch h)
  | cons r _ ih =>
    intro y hy
    rcases List.mem_cons.mp hy with rfl | hy
    · exact ⟨_, .head _, r⟩
    · obtain ⟨x, hx, q⟩ := ih y hy
      exact ⟨x, .tail _ hx, q⟩
theorem NDict.at {a : Addr} {kvs : List (NestedKey × Addr × V)} (h : NDict X H a kvs) (I : Inv X pins σ H s) : ∃ o ys, H a = some (FxO a o) ∧ NdAt X.w a o kvs ∧ s.heap.get? a = some o ∧ Paired NPair kvs ys ∧ s.heap.DictOfH (nestedKind X.prog X.w) a ys ∧ ys.length ≤ sizeLine ∧ (a == sysModules) = false := by
  obtain ⟨b, o, h1, h2, h3⟩ := h
  obtain ⟨rfl, ho⟩ := inv_fx I h1
  obtain ⟨z, hs, ys, es, ep, pr, hx, hd, he, nd⟩ := id h2
  refine ⟨o, ys, h1, h2, ho, pr, ⟨o, es, ep, ho, hx, hd, he, fun y hy => ?_, nd⟩, by rw [← Paired.length pr]; exact z, hs⟩
  obtain ⟨p, hp, e1, e2, _⟩ := paired_mem pr y hy
  rw [← e1, ← e2]
  exact h3 p hp _ _ _ I
def ndVal (kvs : List (NestedKey × Addr × V)) (k : NestedKey) : Option V := (kvs.find? fun x => decide (x.1 = k)).map (·.2.2)
theorem ndVal_rel {kvs : List (NestedKey × Addr × V)} {ys : List (NestedKey × Addr × Value)} (h : Paired NPair kvs ys) (k : NestedKey) : RelO (ndVal kvs k) ((atKey ys k).map (·.2)) := by
  induction h with
  | nil => exact True.intro
  | @cons p q ps qs r _ ih =>
    unfold ndVal atKey at ih ⊢
    rw [List.find?_cons, List.find?_cons]
    by_cases e : p.1 = k
    · rw [decide_eq_true e, decide_eq_true (show q.1 = k from by rw [← r.1]; exact e)]
      exact r.2.2
    · rw [decide_eq_false e, decide_eq_false (show ¬ q.1 = k from by rw [← r.1]; exact e)]
      exact ih
/-- a pair is stored -/
def ndPut (kvs : List (NestedKey × Addr × V)) (k : NestedKey) (b : Addr) (v : V) : List (NestedKey × Addr × V) := if (ndVal kvs k).isSome then kvs.map (fun x => if x.1 = k then (x.1, x.2.1, v) else x) else kvs ++ [(k, b, v)]
theorem npair_map {kvs : List (NestedKey × Addr × V)} {ys : List (NestedKey × Addr × Value)} (h : Paired NPair kvs ys) (k : NestedKey) {v : V} {u : Value} (rv : RelV v u) : Paired NPair (kvs.map (fun x => if x.1 = k then (x.1, x.2.1, v) else x)) (ys.map (PySem.putAt k u)) := by
  induction h with
  | nil => exact .nil
  | @cons p q ps qs r _ ih =>
    refine .cons ?_ ih
    show NPair (if p.1 = k then (p.1, p.2.1, v) else p) (if q.1 = k then (q.1, q.2.1, u) else q)
    by_cases e : p.1 = k
    · rw [if_pos e, if_pos (show q.1 = k from by rw [← r.1]; exact e)]
      exact ⟨r.1, r.2.1, rv⟩
    · rw [if_neg e, if_neg (show ¬ q.1 = k from by rw [← r.1]; exact e)]
      exact r
theorem npair_snoc {kvs : List (NestedKey × Addr × V)} {ys : List (NestedKey × Addr × Value)} (h : Paired NPair kvs ys) (k : NestedKey) (b : Addr) {v : V} {u : Value} (rv : RelV v u) : Paired NPair (kvs ++ [(k, b, v)]) (ys ++ [(k, b, u)]) := by
  induction h with
  | nil => exact .cons ⟨rfl, rfl, rv⟩ .nil
  | cons r _ ih => exact .cons r ih
theorem ndPut_rel {kvs : List (NestedKey × Addr × V)} {ys : List (NestedKey × Addr × Value)} (h : Paired NPair kvs ys) (k : NestedKey) (b : Addr) {v : V} {u : Value} (rv : RelV v u) : Paired NPair (ndPut kvs k b v) (storedH ys k b u) := by
  have e : (ndVal kvs k).isSome = (atKey ys k).isSome := by
    have q := (ndVal_rel h k).isSome_eq
    rw [Option.isSome_map] at q
    exact q
  unfold ndPut storedH
  rw [e]
  split
  · exact npair_map h k rv
  · exact npair_snoc h k b rv
theorem ndPut_len (kvs : List (NestedKey × Addr × V)) (k : NestedKey) (b : Addr) (v : V) : (ndPut kvs k b v).length ≤ kvs.length + 1 := by
  unfold ndPut
  split
  · rw [List.length_map]; omega
  · rw [List.length_append]; exact Nat.le_refl _
/-- the object behind a store -/
theorem NdAt.of {h' : Heap} {a : Addr} {kvs : List (NestedKey × Addr × V)} {ys : List (NestedKey × Addr × Value)} {P : Program} {w : World} (z : kvs.length ≤ sizeLine) (hs : (a == sysModules) = false) (pr : Paired NPair kvs ys) (d : h'.DictOfH (nestedKind P w) a ys) : ∃ o, h'.get? a = some o ∧ NdAt w a o kvs := by
  obtain ⟨o, es, ep, ho, hx, hd, he, _, nd⟩ := d
  exact ⟨o, ho, z, hs, ys, es, ep, pr, hx, hd, he, nd⟩
end
theorem fx_ok {P : Program} {w : World} {H' : Hp} {h' : Heap} {a : Addr} {ob : Obj} (h : h'.get? a = some ob) : ObjOk P w H' h' a (FxO a ob) := ⟨h, ⟨ob, h⟩, fun _ _ e1 k => k ob e1⟩
/-! ### d[k], d.get(k, x) -/
def tNGet (X : Cx) (td ty : TE) : TE := fun σ H Q => td σ H fun x H1 => ty σ H1 fun y H2 => ∃ a b k kvs v, x = .ref a ∧ y = .ref b ∧ NDict X H2 a kvs ∧ NKey X H2 k b ∧ ndVal kvs k = some v ∧ Q v H2
def tNGet2 (X : Cx) (td ty tx : TE) : TE := fun σ H Q => td σ H fun x H1 => ∃ a, x = .ref a ∧ (∃ kvs, NDict X H1 a kvs) ∧ ty σ H1 fun y H2 => tx σ H2 fun z H3 => ∃ b k kvs, y = .ref b ∧ NDict X H3 a kvs ∧ NKey X H3 k b ∧ Q ((ndVal kvs k).getD z) H3
section
variable {X : Cx} {o i e f : Expr} {pos apos cpos : Pos} {td ty tx : TE}
theorem pe_nget (hu : X.A.units + 9 < cLine) (ho : PE X o td) (hi : PE X i ty) (hs : NoSl i) : PE X (.Subscript o i pos) (tNGet X td ty) := by
  refine ⟨fun pins s σ H Q I h => ?_⟩
  refine subD_of PySem.F.slot_dict_getitem.lookup hs (thn (ho.run pins s σ H _ I h) fun u s1 ⟨x, H1, I1, rx, q1⟩ => thn (hi.run pins s1 σ H1 _ I1 q1) fun iv s2 ⟨y, H2, I2, ry, a, b, k, kvs, v, ex, ey, hd, hk, hv, q2⟩ => ?_)
  subst ex ey
  obtain rfl : u = Value.ref a := rx
  obtain rfl : iv = Value.ref b := ry
  obtain ⟨o, ys, _, _, _, pr, dd, _, _⟩ := hd.at I2
  refine ⟨dd.typeIs, ?_⟩
  obtain ⟨w', hw, rw'⟩ := RelO.some_of (v := v) (o := (atKey ys k).map (·.2)) (by rw [← hv]; exact ndVal_rel pr k)
  obtain ⟨p, hp, hp2⟩ := Option.map_eq_some_iff.mp hw
  refine wpAny_getItem_heap (show (nestedKind X.prog X.w).room X.A.in1 from by show X.A.units + 1 + 8 < cLine; omega) (hk _ _ _ I2) dd hp ?_
  rw [hp2]
  exact ⟨v, H2, I2.tok _, rw', q2⟩
theorem pe_nget2 (hu : X.A.units + 9 < cLine) (ho : PE X o td) (he : PE X e ty) (hf : PE X f tx) (m : M2 X o "get" apos e f cpos) : PE X (.Call (.Attribute o "get" apos) [e, f] [] cpos) (tNGet2 X td ty tx) := by
  refine ⟨fun pins s σ H Q I h => ?_⟩
  refine wpAny_Call_method m.base m.few m.line PySem.F.plainAttrs_dict PySem.F.slot_dict_get PySem.F.type_dict_get (thn (ho.run pins s σ H _ I h) fun u s1 ⟨x, H1, I1, rx, a, ex, ⟨kvs0, hd0⟩, q1⟩ => ?_)
  subst ex
  obtain rfl : u = Value.ref a := rx
  obtain ⟨o0, ys0, _, ⟨_, _, _, _, _, _, hx0, _⟩, ho0, _, dd0, _, _⟩ := hd0.at I1
  refine ⟨dd0.typeIs, fun c q => by cases q; exact ⟨o0, ho0, hx0.2.1⟩, ?_⟩
  rw [m.trees]
  refine Calls.callWith_builtin rfl (Calls.evalArgs_plain (Calls.spliced_cons (thn (he.run pins s1 σ H1 _ I1 q1) fun iv s2 ⟨y, H2, I2, ry, q2⟩ =>
    Calls.spliced_cons (thn (hf.run pins s2 σ H2 _ I2 q2) fun fv s3 ⟨z, H3, I3, rz, b, k, kvs, ey, hd, hk, q3⟩ => Calls.spliced_nil ?_))))
  subst ey
  obtain rfl : iv = Value.ref b := ry
  obtain ⟨o1, ys, _, _, _, pr, dd, _, hs⟩ := hd.at I3
  refine call_meetsIn PySem.F.slot_dict_get dd.typeIs PySem.F.entry_dict_get (PySem.F.args_dict_get_3 _ _ _) (meetsH_dict_get_default (nestedKind X.prog X.w) a b hs fv) ⟨?_, k, ys, hk _ _ _ I3, dd, ⟨_, H3, I3.tok _, (ndVal_rel pr k).getD rz, q3⟩⟩
  show X.A.units + 1 + 8 < cLine
  omega
/-- o[i] = v -/
def rSetN (X : Cx) : TSet := fun o i v H Q => ∃ a b k kvs, o = .ref a ∧ i = .ref b ∧ NDict X H a kvs ∧ NKey X H k b ∧ kvs.length < sizeLine ∧ ∀ ob, NdAt X.w a ob (ndPut kvs k b v) → Q (upd H a (FxO a ob))
theorem set_ndict (hu : X.A.units + 9 < cLine) : PSet X (rSetN X) := by
  intro pins s σ H o i v ov iv u Q I ro ri rv h
  obtain ⟨a, b, k, kvs, rfl, rfl, hd, hk, hl, q⟩ := h
  cases (show ov = Value.ref a from ro)
  cases (show iv = Value.ref b from ri)
  obtain ⟨o0, ys, hH, _, ho, pr, dd, hz, hs⟩ := hd.at I
  refine wpAny_setItem_heap (hsz := hz) (show (nestedKind X.prog X.w).room X.A.in1 from by show X.A.units + 1 + 8 < cLine; omega) (hk _ _ _ I) dd fun h' dd' sb => ?_
  obtain ⟨ob, hob, nd⟩ := NdAt.of (kvs := ndPut kvs k b v) (by have := ndPut_len kvs k b v; omega) hs (ndPut_rel pr k b rv) dd'
  exact ⟨_, d_write I (by rw [hH]; exact True.intro) sb ⟨ob, hob⟩ (fx_ok hob), q ob nd⟩
/-! ### {} and {k: v} -/
def tNNew (w : World) : TE := fun _ H Q => ∀ p o, H p = none → NdAt w p o [] → Q (.ref p) (upd H p (FxO p o))
theorem sys_ne {pins : List (Addr × Obj)} {σ : L2.St} {H : Hp} {s : Shared} (I : Inv X pins σ H s) : (s.heap.objs.size == sysModules) = false := beq_eq_false_iff_ne.mpr (Ne.symm (Nat.ne_of_lt I.big))
theorem pe_nnew : PE X (.Dict [] [] pos) (tNNew X.w) := ⟨fun pins s σ H Q I h => by
  have hn := I.hok.fresh (Nat.le_refl s.heap.objs.size)
  have ho : (s.heap.push { cls := .type "dict", data := .dict #[] }).get? s.heap.objs.size = some { cls := .type "dict", data := .dict #[] } := Heap.get?_push_size _ rfl
  refine wpAny_Dict_empty ⟨.ref s.heap.objs.size, _, I.laid (a := s.heap.objs.size) (o := FxO s.heap.objs.size { cls := .type "dict", data := .dict #[] }) (t' := s.toks) (fun _ _ q => Heap.get?_push_of_some _ q) (Nat.le_refl _) (fx_ok ho), rfl, ?_⟩
  exact h _ _ hn ⟨Nat.zero_le _, sys_ne I, [], #[], 0, .nil, ⟨rfl, rfl, rfl⟩, rfl, rfl, List.nodup_nil⟩⟩
def tNDisp1 (X : Cx) (tk tv : TE) : TE := fun σ H Q => ∀ p, H p = none → tk σ (upd H p (.dT [])) fun x H1 => tv σ H1 fun y H2 => H2 p = some (.dT []) ∧ ∃ b k, x = .ref b ∧ NKey X H2 k b ∧ ∀ o, NdAt X.w p o [(k, b, y)] → Q (.ref p) (upd H2 p (FxO p o))
def ps1 (R : V → V → Hp → Prop) : List (V × V) → Hp → Prop
  | [(x, y)], H => R x y H
  | _, _ => False
theorem ps1_of {R : V → V → Hp → Prop} {ps : List (V × V)} {H : Hp} (h : ps1 R ps H) : ∃ x y, ps = [(x, y)] ∧ R x y H := by
  unfold ps1 at h
  split at h
  · exact ⟨_, _, rfl, h⟩
  · exact h.elim
theorem pe_ndisp1 (hu : X.A.units + 9 < cLine) (he : PE X e ty) (hf : PE X f tx) : PE X (.Dict [some e] [f] pos) (tNDisp1 X ty tx) := by
  refine ⟨fun pins s σ H Q I q => ?_⟩
  have hn := I.hok.fresh (Nat.le_refl s.heap.objs.size)
  have I1 := I.laid (a := s.heap.objs.size) (o := .dT []) (h' := s.heap.push { cls := .type "dict", data := .dict #[] }) (t' := s.toks) (fun _ _ q => Heap.get?_push_of_some _ q) (Nat.le_refl _) (dt_empty s.heap I.big)
  have hp : PPs X pos [some e] [f] [(ty, tx)] := pps_cons he hf pps_nil
  refine wpAny_Dict_any rfl rfl (fun z => nomatch z) (Nat.le_of_ble_eq_true rfl) (thn (hp.run pins _ σ _ (ps1 fun x y H2 => H2 s.heap.objs.size = some (.dT []) ∧ ∃ b k, x = .ref b ∧ NKey X H2 k b ∧ ∀ o, NdAt X.w s.heap.objs.size o [(k, b, y)] → Q (.ref s.heap.objs.size) (upd H2 s.heap.objs.size (FxO s.heap.objs.size o))) I1
    (q _ hn)) fun ws s2 ⟨ps, H2, I2, rel, hps⟩ => ?_)
  obtain ⟨x, y, ep, eH, b, k, ex, hk, q2⟩ := ps1_of hps
  subst ep ex
  cases rel with
  | @cons a1 b1 as bs r t =>
    cases t
    obtain ⟨c1, c2⟩ := b1
    obtain ⟨r1, r2⟩ := r
    cases (show c1 = Value.ref b from r1)
    have k2 := hk _ _ _ I2
    obtain ⟨_, hd, xs0, r0, dd⟩ := dt_of I2.hok eH
    cases r0
    obtain ⟨o0, es0, ep0, g1, g2, g3, g4, _, _⟩ := dd
    have d0 : s2.heap.DictOfH (nestedKind X.prog X.w) s.heap.objs.size [] := ⟨o0, es0, ep0, g1, g2, g3, g4, fun x hx => (nomatch hx), List.nodup_nil⟩
    refine wpAny_storeAllH (knd := nestedKind X.prog X.w) (show X.A.units + 8 < cLine by omega) [(Value.ref b, c2)] [(k, b, c2)] [] s2 _ ⟨rfl, rfl, k2, True.intro⟩ d0 (lenOk (Nat.le_of_ble_eq_true rfl)) fun h' tk dd' sb => ?_
    obtain ⟨ob, hob, nd⟩ := NdAt.of (kvs := [(k, b, y)]) (lenOk (Nat.le_of_ble_eq_true rfl)) hd (show Paired NPair [(k, b, y)] (storedAllH [] [(k, b, c2)]) from .cons ⟨rfl, rfl, r2⟩ .nil) dd'
    exact ⟨.ref s.heap.objs.size, _, d_write I2 (by rw [eH]; exact True.intro) sb ⟨ob, hob⟩ (fx_ok hob), rfl, q2 ob nd⟩
end
/-! ### its keys, in order -/
def ItN (a : Addr) (o : Obj) (bs : List V) : It := ⟨fun i H => (∃ b, H a = some (FxO b o)) ∧ i < bs.length, fun i H x H' => H' = H ∧ bs[i]? = some x, fun i H => (∃ b, H a = some (FxO b o)) ∧ bs.length ≤ i⟩
/-- an object's entries have these keys -/
def NEnt (o : Obj) (bs : List V) : Prop := o.ExactDict ∧ ∃ (es : Array DictEntry) (ep : Nat), o.data = .dict es ep ∧ es.size = bs.length ∧ ∀ (i : Nat) (x : V), bs[i]? = some x → ∃ en, es[i]? = some en ∧ RelV x en.key
theorem NdAt.ent {w : World} {b : Addr} {o : Obj} {kvs : List (NestedKey × Addr × V)} (h : NdAt w b o kvs) : NEnt o (kvs.map fun p => V.ref p.2.1) := by
  obtain ⟨z, hs, ys, es, ep, pr, hx, hd, he, nd⟩ := h
  refine ⟨hx, es, ep, hd, ?_, fun i x hi => ?_⟩
  · rw [← Array.length_toList, he, List.length_map, List.length_map]
    exact (Paired.length pr).symm
  · rw [List.getElem?_map] at hi
    obtain ⟨p, hp, rfl⟩ := Option.map_eq_some_iff.mp hi
    obtain ⟨q, hq, _, e2, _⟩ := paired_get pr hp
    refine ⟨_, by rw [← Array.getElem?_toList, he, List.getElem?_map, hq]; rfl, ?_⟩
    show Value.ref q.2.1 = Value.ref p.2.1
    rw [e2]
theorem turn_nd {P : Program} {w : World} {K : PySem.W.Frag} {tg : Expr} {a : Addr} {o : Obj} {bs : List V} {es : Array DictEntry} {ep : Nat} (it : Addr) (hod : o.data = .dict es ep) (hsz : es.size = bs.length) (hen : ∀ (i : Nat) (x : V), bs[i]? = some x → ∃ en, es[i]? = some en ∧ RelV x en.key) :
    Turn P w K tg (ItN a o bs) [it] it (fun i h => h.IsKeyIter it a i bs.length ep) where
  mem := by simp
  obj := fun i h st b hb => by
    have e : b = it := by simpa using hb
    subst e
    obtain ⟨oi, e, c, dd⟩ := st
    exact ⟨oi, e, fun v z => by rw [dd] at z; cases z⟩
  keep := fun i h h' st k => st.at fun oi e => k it (by simp) oi e
  item := by
    intro X hP hw hK hc i pins s σ H E I hf st hg
    subst hP hw hK
    obtain ⟨⟨b', hd⟩, hi⟩ := hg
    obtain ⟨f0, f1, f2, f3, f4, f5⟩ := hf it (by simp)
    obtain ⟨_, hgd⟩ := inv_fx I hd
    obtain ⟨x, hx⟩ : ∃ p, bs[i]? = some p := ⟨bs[i], List.getElem?_eq_getElem hi⟩
    obtain ⟨en, he, rx⟩ := hen i x hx
    refine next_key_item st hgd hod hsz he fun h' st' sb => ?_
    have I1 : Inv X pins σ H { s with heap := h' } := I.turned (t' := s.toks) (fun b ob hb e => (sb.2 b hb).trans e) f0 f1 f3 f4 f5
    obtain ⟨oi, e, c, dd⟩ := id st'
    exact ⟨en.key, rfl, go_of (s := { s with heap := h' }) e c dd (by decide) ⟨x, H, I1, rx, ⟨rfl, hx⟩, st', fun b hb => (hf b hb).1⟩⟩
  done := by
    intro X hP hw hK hc i pins s σ H E I hf st hg
    subst hP hw hK
    obtain ⟨⟨b', hd⟩, hi⟩ := hg
    obtain ⟨f0, f1, f2, f3, f4, f5⟩ := hf it (by simp)
    obtain ⟨_, hgd⟩ := inv_fx I hd
    exact next_key_end (I.ok.hd hc) st hgd hod hsz hi fun h' eb => ⟨rfl, I.turned (t' := s.toks) (fun b o hb e => eb b o hb e) f0 f1 f3 f4 f5⟩
  self := fun A i s Q E st h => by
    refine wpAny_pyIter_slot st.typeIs F.slot_dict_keyiterator_iter (wpAny_call_entry F.slot_dict_keyiterator_iter st.typeIs F.entry_dict_keyiterator_iter ?_ (F.args_dict_keyiterator_iter_1 _))
    show wpAny _ _ (ret (.ref it)) _ _ s
    exact wpAny_pure ⟨_, rfl, "dict_keyiterator", _, st.typeIs, F.slot_dict_keyiterator_next.lookup, h⟩
def iNd (te : TE) : TI := fun σ H R => te σ H fun x H1 => ∃ a b o bs, x = .ref a ∧ H1 a = some (FxO b o) ∧ (b == sysModules) = false ∧ NEnt o bs ∧ R (ItN a o bs) H1
section
variable {X : Cx} {tg e : Expr} {td : TE}
theorem pi_nd (he : PE X e td) : PI X tg e (iNd td) := by
  refine ⟨fun pins s σ H R I h => ?_⟩
  refine thn (he.run pins s σ H _ I h) fun u s1 ⟨x, H1, I1, rx, a, b, o, bs, ex, hd, hs, ⟨hx, es, ep, hod, hsz, hen⟩, q⟩ => ?_
  subst ex
  obtain rfl : u = Value.ref a := rx
  obtain ⟨eb, hgd⟩ := inv_fx I1 hd
  subst eb
  refine iter_keys hs hgd hx hod (pi_one (tk := s1.toks) I1 _ (turn_nd _ hod hsz hen) ⟨_, Heap.get?_push_size _ rfl, rfl, ?_⟩ q)
  rw [hsz] <;> rfl
end
theorem for_nd {a : Addr} {o : Obj} {xs : List V} {g : TG} {tb : TS} {D : Ends} {σ : L2.St} {H : Hp} (Pv : Nat → L2.St → Hp → Prop) (h0 : Pv 0 σ H) (hl : ∀ i σ H, i ≤ xs.length → Pv i σ H → ∃ b, H a = some (FxO b o))
    (hs : ∀ i x σ H, xs[i]? = some x → Pv i σ H → g x σ H fun σ2 H2 => tb { D with nx := Pv (i + 1), ct := Pv (i + 1), bk := D.nx } σ2 H2) (hd : ∀ σ H, Pv xs.length σ H → D.nx σ H) :
    ∃ W : Nat → Nat → L2.St → Hp → Prop, (∃ m, W 0 m σ H) ∧ ∀ i m σ H, W i m σ H →
      ((ItN a o xs).stop i H ∧ D.nx σ H) ∨ ((ItN a o xs).go i H ∧ ∃ N : L2.St → Hp → Prop, (∀ σ' H', N σ' H' → ∃ m', m' < m ∧ W (i + 1) m' σ' H') ∧ ∀ x H', (ItN a o xs).yld i H x H' → g x σ H' fun σ2 H2 => tb { D with nx := N, ct := N, bk := D.nx } σ2 H2) := by
  refine ⟨fun i m σ H => m = xs.length - i ∧ i ≤ xs.length ∧ Pv i σ H, ⟨xs.length, by simp, Nat.zero_le _, h0⟩, ?_⟩
  rintro i m σ H ⟨rfl, hi, p⟩
  have q := hl i σ H hi p
  by_cases hlt : i < xs.length
  · refine .inr ⟨⟨q, hlt⟩, Pv (i + 1), fun σ' H' p' => ⟨xs.length - (i + 1), by omega, rfl, hlt, p'⟩, fun x H' y => ?_⟩
    obtain ⟨e, y⟩ := y
    subst e
    exact hs i x σ _ y p
  · have e : i = xs.length := by omega
    subst e
    exact .inl ⟨⟨q, Nat.le_refl _⟩, hd σ H p⟩
theorem lc_nd {a : Addr} {o : Obj} {xs : List V} {g : TG} {tt : TT} {te : TE} {vs : List Nat} {σ : L2.St} {H1 : Hp} {D : Addr} {Qd : Hp → Prop} (Pv : Nat → Hp → Prop) (h0 : Pv 0 (upd H1 D (.lst []))) (hl : ∀ i H, i ≤ xs.length → Pv i H → ∃ b, H a = some (FxO b o))
    (hs : ∀ i x H, xs[i]? = some x → Pv i H → g x (wipe σ vs) H fun σ2 H2 => wipe σ2 vs = wipe σ vs ∧ tt σ2 H2 fun b H3 =>
      if b = true then te σ2 H3 fun y H4 => ∃ acc, H4 D = some (.lst acc) ∧ acc.length < sizeLine ∧ Pv (i + 1) (upd H4 D (.lst (acc ++ [y]))) else Pv (i + 1) H3) (hd : ∀ H, Pv xs.length H → Qd H) :
    ∃ W : Nat → Nat → Hp → Prop, (∃ m, W 0 m (upd H1 D (.lst []))) ∧ ∀ i m H, W i m H →
      ((ItN a o xs).stop i H ∧ Qd H) ∨ ((ItN a o xs).go i H ∧ ∃ Nx : Hp → Prop, (∀ H', Nx H' → ∃ m', m' < m ∧ W (i + 1) m' H') ∧ ∀ x H', (ItN a o xs).yld i H x H' → g x (wipe σ vs) H' fun σ2 H2 => wipe σ2 vs = wipe σ vs ∧ tt σ2 H2 fun b H3 =>
        if b = true then te σ2 H3 fun y H4 => ∃ acc, H4 D = some (.lst acc) ∧ acc.length < sizeLine ∧ Nx (upd H4 D (.lst (acc ++ [y]))) else Nx H3) := by
  refine ⟨fun i m H => m = xs.length - i ∧ i ≤ xs.length ∧ Pv i H, ⟨xs.length, by simp, Nat.zero_le _, h0⟩, ?_⟩
  rintro i m H ⟨rfl, hi, p⟩
  have q := hl i H hi p
  by_cases hlt : i < xs.length
  · refine .inr ⟨⟨q, hlt⟩, Pv (i + 1), fun H' p' => ⟨xs.length - (i + 1), by omega, rfl, hlt, p'⟩, fun x H' y => ?_⟩
    obtain ⟨e, y⟩ := y
    subst e
    exact hs i x _ y p
  · have e : i = xs.length := by omega
    subst e
    exact .inl ⟨⟨q, Nat.le_refl _⟩, hd H p⟩
end Fz
/-! dicts keyed by tuples, as data -/
namespace Fz
open PySem PySem.Spec PyProof.Rows L2
/-- what stands at a key -/
def nLook : List D → List D → D → Option D
  | k :: ks, d :: ds, x => if nkD k = nkD x then some d else nLook ks ds x
  | _, _, _ => none
def nHas : List D → D → Bool
  | k :: ks, x => if nkD k = nkD x then true else nHas ks x
  | [], _ => false
def nPutK (ks : List D) (x : D) : List D := if nHas ks x then ks else ks ++ [x]
def nSet : List D → List D → D → D → List D
  | k :: ks, d :: ds, x, y => (if nkD k = nkD x then y else d) :: nSet ks ds x y
  | _, _, _, _ => []
def nPutV (ks ds : List D) (x y : D) : List D := if nHas ks x then nSet ks ds x y else ds ++ [y]
section
variable {K : PySem.W.Frag} {S : Addr} {G : Hp} {v : V} {d : D}
theorem ndVal_cons {p : NestedKey × Addr × V} {r : List (NestedKey × Addr × V)} {k : NestedKey} : ndVal (p :: r) k = if p.1 = k then some p.2.2 else ndVal r k := by
  unfold ndVal
  rw [List.find?_cons]
  by_cases e : p.1 = k
  · rw [decide_eq_true e, if_pos e]; rfl
  · rw [decide_eq_false e, if_neg e]
theorem look_rel (x : D) : ∀ {kvs : List (NestedKey × Addr × V)} {ks ds : List D}, kvs.map (·.1) = ks.map nkD → RepAll K S G (kvs.map fun p => p.2.2) ds → (∃ v d, ndVal kvs (nkD x) = some v ∧ nLook ks ds x = some d ∧ nHas ks x = true ∧ Rep K S G v d) ∨ (ndVal kvs (nkD x) = none ∧ nLook ks ds x = none ∧ nHas ks x = false)
  | [], ks, ds, h1, h2 => by
    cases ks with
    | nil => exact .inr ⟨rfl, rfl, rfl⟩
    | cons _ _ => cases h1
  | p :: r, ks, ds, h1, h2 => by
    cases ks with
    | nil => cases h1
    | cons k ks =>
      rw [List.map_cons, List.map_cons] at h1
      obtain ⟨e1, e2⟩ := List.cons.inj h1
      rw [List.map_cons] at h2
      cases h2 with
      | @cons _ _ d ds q1 q2 =>
        rw [ndVal_cons, e1, nLook, nHas]
        by_cases e : nkD k = nkD x
        · rw [if_pos e, if_pos e, if_pos e]
          exact .inl ⟨_, _, rfl, rfl, rfl, q1⟩
        · rw [if_neg e, if_neg e, if_neg e]
          exact look_rel x e2 q2
theorem nset_rel (x y : D) (rv : Rep K S G v y) : ∀ {kvs : List (NestedKey × Addr × V)} {ks ds : List D}, kvs.map (·.1) = ks.map nkD → RepAll K S G (kvs.map fun p => p.2.2) ds → RepAll K S G ((kvs.map (fun z => if z.1 = nkD x then (z.1, z.2.1, v) else z)).map fun p => p.2.2) (nSet ks ds x y)
  | [], ks, ds, h1, h2 => by
    cases ks with
    | nil => exact .nil
    | cons _ _ => cases h1
  | p :: r, ks, ds, h1, h2 => by
    cases ks with
    | nil => cases h1
    | cons k ks =>
      rw [List.map_cons, List.map_cons] at h1
      obtain ⟨e1, e2⟩ := List.cons.inj h1
      rw [List.map_cons] at h2
      cases h2 with
      | @cons _ _ d ds q1 q2 =>
        rw [List.map_cons, List.map_cons, nSet]
        refine .cons ?_ (nset_rel x y rv e2 q2)
        rw [e1]
        by_cases e : nkD k = nkD x
        · rw [if_pos e, if_pos e]; exact rv
        · rw [if_neg e, if_neg e]; exact q1
theorem nset_keys (k : NestedKey) (v : V) : ∀ kvs : List (NestedKey × Addr × V), (kvs.map (fun z => if z.1 = k then (z.1, z.2.1, v) else z)).map (·.1) = kvs.map (·.1) ∧ (kvs.map (fun z => if z.1 = k then (z.1, z.2.1, v) else z)).map (fun p => V.ref p.2.1) = kvs.map (fun p => V.ref p.2.1)
  | [] => ⟨rfl, rfl⟩
  | p :: r => by
    obtain ⟨h1, h2⟩ := nset_keys k v r
    rw [List.map_cons, List.map_cons, List.map_cons, h1, List.map_cons, h2]
    by_cases e : p.1 = k
    · rw [if_pos e]; exact ⟨rfl, rfl⟩
    · rw [if_neg e]; exact ⟨rfl, rfl⟩
/-- the dict behind a store -/
theorem nput_top {w : World} {a b : Addr} {ob : Obj} {kvs : List (NestedKey × Addr × V)} {ks ds : List D} {x y : D} (nd : NdAt w a ob (ndPut kvs (nkD x) b v)) (hk : kvs.map (·.1) = ks.map nkD) (ht : ∀ k ∈ ks, keyT k = true) (rb : RepAll K S G (kvs.map fun p => V.ref p.2.1) ks) (rx : RepAll K S G (kvs.map fun p => p.2.2) ds)
    (tx : keyT x = true) (rk : Rep K S G (.ref b) x) (rv : Rep K S G v y) : Top K S G (FxO a ob) (.ndc w (nPutK ks x) (nPutV ks ds x y)) := by
  have hl := look_rel x hk rx
  have e : (ndVal kvs (nkD x)).isSome = nHas ks x := by
    rcases hl with ⟨_, _, h1, _, h2, _⟩ | ⟨h1, _, h2⟩
    · rw [h1, h2]; rfl
    · rw [h1, h2]; rfl
  unfold nPutK nPutV
  unfold ndPut at nd
  rw [e] at nd
  cases hh : nHas ks x with
  | true =>
    rw [hh, if_pos rfl] at nd
    rw [if_pos rfl, if_pos rfl]
    obtain ⟨h1, h2⟩ := nset_keys (nkD x) v kvs
    exact .ndc nd (h1.trans hk) ht h2 rfl rb (nset_rel x y rv hk rx)
  | false =>
    rw [hh, if_neg Bool.false_ne_true] at nd
    rw [if_neg Bool.false_ne_true, if_neg Bool.false_ne_true]
    refine .ndc nd (by rw [List.map_append, List.map_append, hk]; rfl) (fun k h => ?_) (by rw [List.map_append]; rfl) (by rw [List.map_append]; rfl) (rb.append (.one rk)) (rx.append (.one rv))
    rcases List.mem_append.mp h with h | h
    · exact ht k h
    · rw [List.mem_singleton.mp h]; exact tx
end
theorem ndict_of {X : Cx} {S : Addr} {G H : Hp} {a b : Addr} {o : Obj} {kvs : List (NestedKey × Addr × V)} {ks : List D} (e : Same G H) (hH : H a = some (FxO b o)) (nd : NdAt X.w b o kvs) (hk : kvs.map (·.1) = ks.map nkD) (ht : ∀ k ∈ ks, keyT k = true) (rb : RepAll X.K S G (kvs.map fun p => V.ref p.2.1) ks) : NDict X H a kvs := by
  refine ⟨b, o, hH, nd, fun p hp => ?_⟩
  obtain ⟨i, hi⟩ := List.mem_iff_getElem?.mp hp
  obtain ⟨k, hk1, rk⟩ := rb.getV (i := i) (v := V.ref p.2.1) (by rw [List.getElem?_map, hi]; rfl)
  have e1 : nkD k = p.1 := by
    have q : (kvs.map (·.1))[i]? = (ks.map nkD)[i]? := by rw [hk]
    rw [List.getElem?_map, List.getElem?_map, hi, hk1] at q
    exact (Option.some.inj q).symm
  obtain ⟨c, ec, q⟩ := nkey_of e (ht k (List.mem_of_getElem? hk1)) rk
  cases ec
  rw [← e1]
  exact q
section
variable {B : Bx} {ρ : List En} {a b c e f elt tg iter : Expr} {ifs : List Expr} {k : D → Prop} {x y : Str} {pos p p' apos cpos : Pos} {rest : List Stmt} {D0 : Ed} {scope : Scope} {own : List (Str × Nat)} {put : List En → D → List En → Prop} {is : List Nat} {g : TG}
/-- {k: v} -/
theorem tk_ndisp1 (hu : B.X.A.units + 9 < cLine) (h : Tk B ρ e fun kd => keyT kd = true ∧ Tk B ρ f fun d => k (.ndc B.X.w [kd] [d])) : Tk B ρ (.Dict [some e] [f] pos) k := Tk.of fun σ H G s =>
  ⟨_, pe_ndisp1 hu pe_W pe_W, fun q nq => by
    obtain ⟨g0, i0⟩ := s.beside (o := .dT []) nq
    have s0 := s.step g0 i0
    have gq : G q = none := s.gr.s.free nq
    refine h.te s0 fun v1 d1 G1 H1 g1 i1 r1 h1 => ?_
    obtain ⟨t1, h1⟩ := h1
    have s1 := s0.step g1 i1
    refine h1.te s1 fun v2 d2 G2 H2 g2 i2 r2 h2 => ?_
    have s2 := s1.step g2 i2
    have gg := g1.trans i1 g2
    obtain ⟨bk, ek, hk⟩ := nkey_of s2.gr.s t1 (r1.mono g2.g)
    subst ek
    refine ⟨gg.h q _ (s.noW nq) upd_same, bk, nkD d1, rfl, hk, fun ob nd => ?_⟩
    refine Kd.put nq gg s.gr.s gq (s.noW nq) i2 ?_ h2
    exact .ndc nd rfl (fun z hz => by rw [List.mem_singleton.mp hz]; exact t1) rfl rfl (.one (r1.mono g2.g)) (.one r2)⟩
/-- name = {}: a new one, the def's own -/
theorem s_ownN (i : Nat) (h : Tss B (ρ.set i (.own (.ndc B.X.w [] []))) rest D0) (hN : B.X.N.Nodup) (hi : B.X.N[i]? = some x := by rfl) (hx : Loc B.X.env.scope x := by first | exact .inl rfl | exact .inr rfl)
    (hs : swapsWith (.Dict [] [] p) (some (.Name x p')) pos.line B.X.env = pure false := by rfl) (hf : B.X.fn x = true ∨ B.X.env.scope.names.lookup x = some .local := by first | exact .inl rfl | exact .inr rfl) :
    Tss B ρ (.Assign [.Name x p'] (.Dict [] [] p) pos :: rest) D0 := Tss.of fun kp σ H G s g =>
  ⟨_, ps_set hN hi hx pe_nnew hs hf, fun q o n nd => by
    obtain ⟨g0, i0⟩ := s.beside (o := FxO q o) n
    exact h kp _ _ G (s.putAt (i := i) n (s.step g0 i0) upd_same (s.gr.s.free n) (.ndc nd rfl (fun _ z => nomatch z) rfl rfl .nil .nil)) (g.trans g0.g)⟩
/-- e[k] -/
def kNd (w : World) (f : List D → List D → Prop) : D → Prop := fun d => ∃ ks ds, d = .ndc w ks ds ∧ f ks ds
theorem tk_nget (hu : B.X.A.units + 9 < cLine) (h : Tk B ρ a (kNd B.X.w fun ks ds => Tk B ρ b fun y => keyT y = true ∧ ∃ d, nLook ks ds y = some d ∧ k d)) (hs : NoSl b := by exact fun _ _ => rfl) : Tk B ρ (.Subscript a b pos) k := Tk.of fun σ H G s =>
  ⟨_, pe_nget hu pe_W pe_W hs, h.te s fun v d G1 H1 g1 i1 r1 h1 => by
    obtain ⟨ks, ds, rfl, h1⟩ := h1
    have s1 := s.step g1 i1
    refine h1.te s1 fun v2 y G2 H2 g2 i2 r2 h2 => ?_
    obtain ⟨ty, d, hd, hk⟩ := h2
    have s2 := s1.step g2 i2
    obtain ⟨q, b', o, kvs, rfl, hq, nd, e1, ht, rb, rx⟩ := (r1.mono g2.g).ndcI
    obtain ⟨bk, rfl, hky⟩ := nkey_of s2.gr.s ty r2
    rcases look_rel y e1 rx with ⟨v', d', z1, z2, _, z3⟩ | ⟨_, z2, _⟩
    · rw [hd] at z2
      cases z2
      exact ⟨q, bk, nkD y, kvs, v', rfl, rfl, ndict_of s2.gr.s (s2.gr.s _ _ hq) nd e1 ht rb, hky, z1, .back i2 (g1.trans i1 g2) (.val s2.gr.s i2 z3 hk)⟩
    · rw [hd] at z2
      cases z2⟩
/-- e.get(k, x) -/
theorem tk_nget2 (hu : B.X.A.units + 9 < cLine) (h : Tk B ρ a (kNd B.X.w fun ks ds => Tk B ρ b fun y => keyT y = true ∧ Tk B ρ c fun z => k ((nLook ks ds y).getD z))) (m : M2 B.X a "get" apos b c cpos := by exact ⟨rfl, rfl, rfl, rfl⟩) : Tk B ρ (.Call (.Attribute a "get" apos) [b, c] [] cpos) k := Tk.of fun σ H G s =>
  ⟨_, pe_nget2 hu pe_W pe_W pe_W m, h.te s fun v d G1 H1 g1 i1 r1 h1 => by
    obtain ⟨ks, ds, rfl, h1⟩ := h1
    have s1 := s.step g1 i1
    obtain ⟨q, b', o, kvs, rfl, hq, nd, e1, ht, rb, rx⟩ := r1.ndcI
    refine ⟨q, rfl, ⟨kvs, ndict_of s1.gr.s (s1.gr.s _ _ hq) nd e1 ht rb⟩, h1.te s1 fun v2 y G2 H2 g2 i2 r2 h2 => ?_⟩
    obtain ⟨ty, h2⟩ := h2
    have s2 := s1.step g2 i2
    refine h2.te s2 fun v3 z G3 H3 g3 i3 r3 hk => ?_
    have s3 := s2.step g3 i3
    obtain ⟨bk, rfl, hky⟩ := nkey_of s3.gr.s ty (r2.mono g3.g)
    have gg := (g1.trans i1 g2).trans i2 g3
    refine ⟨bk, nkD y, kvs, rfl, ndict_of s3.gr.s (s3.gr.s _ _ (g3.g _ _ (g2.g _ _ hq))) nd e1 ht ((rb.mono g2.g).mono g3.g), hky, ?_⟩
    rcases look_rel y e1 ((rx.mono g2.g).mono g3.g) with ⟨v', d', z1, z2, _, z3⟩ | ⟨z1, z2, _⟩
    · rw [z1]
      rw [z2] at hk
      exact .back i3 gg (.val s3.gr.s i3 z3 hk)
    · rw [z1]
      rw [z2] at hk
      exact .back i3 gg (.val s3.gr.s i3 r3 hk)⟩
/-- the same, of an own dict -/
theorem tk_nget2O (j : Nat) {q0 : Option Addr} {ks ds : List D} (hr : ρ[j]? = some (.ow q0 (.ndc B.X.w ks ds))) (hu : B.X.A.units + 9 < cLine) (h : Tk B ρ b fun y => keyT y = true ∧ Tk B ρ c fun z => k ((nLook ks ds y).getD z))
    (hN : B.X.N[j]? = some x := by rfl) (hv : Vis B.X.env.scope x := by first | exact Or.inl rfl | exact Or.inr (Or.inl rfl) | exact Or.inr (Or.inr rfl)) (hd : (x == ("__debug__" : Str)) = false := by decide) (hcd : (x == ("__classdict__" : Str)) = false := by decide)
    (m : M2 B.X (.Name x p) "get" apos b c cpos := by exact ⟨rfl, rfl, rfl, rfl⟩) : Tk B ρ (.Call (.Attribute (.Name x p) "get" apos) [b, c] [] cpos) k := Tk.of fun σ H G s => by
  obtain ⟨q, ob, e1, e2, gp, h0, hw, t, _⟩ := s.ow j _ _ hr
  generalize ew : B.X.w = ww at t
  cases t with
  | @ndc b' o kvs _ _ _ _ _ nd hk ht hb hx rb rx =>
    subst hb hx
    rw [← ew] at nd
    refine ⟨_, pe_nget2 hu (pe_var hN hv hd hcd) pe_W pe_W m, .ref q, e1, q, rfl, ⟨kvs, ndict_of s.gr.s e2 nd hk ht rb⟩, h.te s fun v2 y G2 H2 g2 i2 r2 h2 => ?_⟩
    obtain ⟨ty, h2⟩ := h2
    have s2 := s.step g2 i2
    refine h2.te s2 fun v3 z G3 H3 g3 i3 r3 hkk => ?_
    have s3 := s2.step g3 i3
    obtain ⟨bk, rfl, hky⟩ := nkey_of s3.gr.s ty (r2.mono g3.g)
    have gg := g2.trans i2 g3
    refine ⟨bk, nkD y, kvs, rfl, ndict_of s3.gr.s (gg.h _ _ hw e2) nd hk ht (rb.mono gg.g), hky, ?_⟩
    rcases look_rel y hk (rx.mono gg.g) with ⟨v', d', z1, z2, _, z3⟩ | ⟨z1, z2, _⟩
    · rw [z1]
      rw [z2] at hkk
      exact .back i3 gg (.val s3.gr.s i3 z3 hkk)
    · rw [z1]
      rw [z2] at hkk
      exact .back i3 gg (.val s3.gr.s i3 r3 hkk)
/-- name[k] = e, of an own dict -/
theorem s_nset (j : Nat) {q0 : Option Addr} {ks ds : List D} {np tp : Pos} {ix : Expr} (hr : ρ[j]? = some (.ow q0 (.ndc B.X.w ks ds))) (hu : B.X.A.units + 9 < cLine) (hl : ks.length < sizeLine)
    (h : Tk B ρ e fun d => Tk B ρ ix fun y => keyT y = true ∧ Tss B (ρ.set j (.ow q0 (.ndc B.X.w (nPutK ks y) (nPutV ks ds y d)))) rest D0)
    (hN : B.X.N[j]? = some x := by rfl) (hv : Vis B.X.env.scope x := by first | exact Or.inl rfl | exact Or.inr (Or.inl rfl) | exact Or.inr (Or.inr rfl))
    (hd : (x == ("__debug__" : Str)) = false := by decide) (hcd : (x == ("__classdict__" : Str)) = false := by decide)
    (ha : ∀ v, assign (.Subscript (.Name x np) ix tp) B.X.env v = (do
      let ov ← holding [v] (eval (.Name x np) B.X.env)
      let iv ← holding [v, ov] (eval ix B.X.env)
      standAt tp
      holding [v, ov, iv] (setItem ov iv v)
      release [v, ov, iv] []) := by intro _; rfl)
    (hs : swapsWithSole [.Subscript (.Name x np) ix tp] e pos.line B.X.env = pure false := by rfl) (hw : swappedStores [.Subscript (.Name x np) ix tp] e B.X.env = pure none := by rfl)
    (h1 : (assignEach [.Subscript (.Name x np) ix tp] B.X.env).map (·.2) = [assign (.Subscript (.Name x np) ix tp) B.X.env] := by rfl) :
    Tss B ρ (.Assign [.Subscript (.Name x np) ix tp] e pos :: rest) D0 := Tss.of fun kp σ H G s gk => by
  obtain ⟨q, ob, e1, e2, gp, h0, hw', t, _⟩ := s.ow j _ _ hr
  generalize ew : B.X.w = ww at t
  cases t with
  | @ndc b' o kvs _ _ _ _ _ nd hk ht hb hx rb rx =>
    subst hb hx
    rw [← ew] at nd
    refine ⟨_, ps_asg pe_W (pg_sub (pe_var hN hv hd hcd) pe_W (set_ndict hu) ha) hs hw h1, h.te s fun v d G1 H1 g1 i1 r1 h1 => ⟨.ref q, e1, h1.te (s.step g1 i1) fun v2 y G2 H2 g2 i2 r2 h2 => ?_⟩⟩
    obtain ⟨ty, h3⟩ := h2
    have s2 := (s.step g1 i1).step g2 i2
    have gg := g1.trans i1 g2
    obtain ⟨bk, rfl, hky⟩ := nkey_of s2.gr.s ty r2
    refine ⟨q, bk, nkD y, kvs, rfl, rfl, ndict_of s2.gr.s (gg.h _ _ hw' e2) nd hk ht (rb.mono gg.g), hky, ?_, fun ob' nd' => ?_⟩
    · have e : kvs.length = ks.length := by
        have := congrArg List.length hk
        rwa [List.length_map, List.length_map] at this
      rw [e]; exact hl
    · exact h3 kp _ _ G2 (s2.change hr e1 (nput_top nd' hk ht (rb.mono gg.g) (rx.mono gg.g) ty r2 (r1.mono g2.g))) (gk.trans gg.g)
/-- for tg in a dict -/
theorem s_forN {body : List Stmt} (g : TG) (put : List En → D → List En → Prop) (is : List Nat) (td : TgD B.X.K g put is) (hg : PG B.X tg g) (h : Tk B ρ e fun d => ∃ w ks ds, d = .ndc w ks ds ∧ LoopG B ρ put body rest D0 ks) (po : PassesOwn (model B.X.prog B.X.w) B.X.A B.X.env B.X.xe) (hc : B.X.calm = true)
    (hfs : ∀ v, foldedSetIterable e B.X.env v = pure v := by intro _; rfl) : Tss B ρ (.For tg e body [] pos :: rest) D0 := Tss.of fun kp σ H G s gk =>
  ⟨_, ps_for po hc (pi_nd pe_W) hg pss_W hfs, h.te s fun v d G1 H1 g1 i1 r1 h1 => by
    obtain ⟨w, ks, ds, rfl, J, j0, jb, jd⟩ := h1
    obtain ⟨a, b, o, kvs, rfl, ha, nd, e1, ht, ra, rx⟩ := r1.ndcI
    have s1 := s.step g1 i1
    refine ⟨a, b, o, _, rfl, s1.gr.s _ _ ha, nd.2.1, nd.ent, for_nd (a := a) (o := o) (xs := kvs.map fun p => V.ref p.2.1) (fun j σ H => ∃ ρ' G, J j ρ' ∧ StOk B ρ' σ H G ∧ Same G1 G) ⟨ρ, G1, j0, s1, .refl _⟩ (fun j σ H _ ⟨ρ', G, _, s', g'⟩ => ⟨b, s'.gr.s _ _ (g' _ _ ha)⟩)
      (fun j x σ H hj ⟨ρ', G, hJ, s', g'⟩ => ?_) (fun σ H ⟨ρ', G, hJ, s', g'⟩ => ?_)⟩
    · obtain ⟨d, hd, rd⟩ := ra.getV hj
      obtain ⟨ρ'', hp, hb⟩ := jb j d ρ' hd hJ
      exact td.run rfl hp s' (rd.mono g') fun σ' s'' _ => tWS_mono (hb G1 σ' H G s'' g') (fun _ _ q => q) (fun _ _ q => q) (fun _ _ q => q.elim) (fun _ _ q => q.elim)
    · rw [ra.length] at hJ
      exact jd ρ' hJ kp σ H G s' ((gk.trans g1.g).trans g')⟩
/-- a comprehension over a dict -/
theorem lci_n (td : TgD B.X.K g put is) (hi : ∀ i ∈ is, i ∈ own.map (·.2))
    (h : Tk B ρ iter fun d => ∃ w ks ds, d = .ndc w ks ds ∧ ks.length < sizeLine ∧ ∃ rs, All2 (LcTurn B scope (wipeR ρ (own.map (·.2))) put ifs elt) ks rs ∧ k (.lst (rs.filterMap id))) : LcI B ρ tg iter ifs elt scope own g k :=
  ⟨_, pi_nd pe_W, fun σ H G s Q qf => h.te s fun v d G1 H1 g1 i1 r1 h1 => by
    obtain ⟨w, ks, ds, rfl, hz, rs, h2, hk⟩ := h1
    obtain ⟨a, b, o, kvs, rfl, ha, nd, e1, ht, ra, rx⟩ := r1.ndcI
    have s1 := s.step g1 i1
    refine ⟨a, b, o, _, rfl, s1.gr.s _ _ ha, nd.2.1, nd.ent, fun p hp => ?_⟩
    obtain ⟨Pv, p0, pS, pt, pd⟩ := lc_inv s1 ra hp hz h2 hk td hi
    exact lc_nd (a := a) (o := o) (xs := kvs.map fun p => V.ref p.2.1) (g := g) (tt := tIfs B.X scope ifs) (te := tWB B.X scope elt) (vs := own.map (·.2)) (σ := σ) Pv p0 (fun i H _ q => ⟨b, pS i H q _ _ ha⟩) (fun i x H hx q => pt i x H hx q) fun H q => qf _ _ (Kd.back i1 g1 (pd H q))⟩
end
end Fz
/-! dicts of constants -/
namespace Fz
open PySem PySem.Spec PyProof.Rows L2
section
variable {B : Bx} {ρ : List En} {e f : Expr} {k : D → Prop} {x : Str} {pos p' dp lp : Pos} {rest : List Stmt} {D0 : Ed}
theorem tk_ndLit (n : Nat) {kd d : D} (hk : litD n e = some kd) (ht : keyT kd = true) (hv : litD n f = some d) (hu : B.X.A.units + 9 < cLine) (h : k (.ndc B.X.w [kd] [d])) : TkS B ρ (.Dict [some e] [f] dp) k :=
  ⟨tk_ndisp1 hu ((lit_all n).1 e kd _ hk ⟨ht, (lit_all n).1 f d _ hv h⟩)⟩
/-- name = [{k: v}] -/
theorem s_ownND (i n : Nat) {kd d : D} (hk : litD n e = some kd) (ht : keyT kd = true) (hv : litD n f = some d) (hu : B.X.A.units + 9 < cLine) (h : Tss B (ρ.set i (.own (.lst [.ndc B.X.w [kd] [d]]))) rest D0) (hN : B.X.N.Nodup) (hi : B.X.N[i]? = some x := by rfl) (hx : Loc B.X.env.scope x := by first | exact .inl rfl | exact .inr rfl)
    (hf : B.X.fn x = true ∨ B.X.env.scope.names.lookup x = some .local := by first | exact .inl rfl | exact .inr rfl) : TssS B ρ (.Assign [.Name x p'] (.List [.Dict [some e] [f] dp] lp) pos :: rest) D0 :=
  ⟨s_ownL i (ta_cons (tk_ndLit n hk ht hv hu (ta_nil ⟨lenOk (Nat.le_of_ble_eq_true rfl), h⟩)).h rfl) hN hi hx rfl hf⟩
end
end Fz
/-! comprehensions over dicts keyed by tuples, one name as the target -/
namespace Fz
open PySem PySem.Spec PyProof.Rows L2
section
variable {B : Bx} {ρ : List En} {c elt tg iter : Expr} {k : D → Prop} {scope : Scope}
theorem lcn_n (y : Str) (i : Nat) (h : Tk B ρ iter (kNd B.X.w fun ks ds => ks.length < sizeLine ∧ ∃ rs : List D, All2 (NT B scope ρ i elt) ks rs ∧ k (.lst rs))) : LcI B ρ tg iter [] elt scope [(y, i)] (gName i) k :=
  lci_n (td_name i) hi_one (h.mono fun d ⟨ks, ds, e, q1, rs, q2, q3⟩ => ⟨_, ks, ds, e, q1, rs.map some, q2.to fun _ _ h => h.turn, by rw [show rs.map some = rs.map (fun x => some (id x)) from rfl, fm_some, List.map_id]; exact q3⟩)
theorem lcf_n (y : Str) (i : Nat) (h : Tk B ρ iter (kNd B.X.w fun ks ds => ks.length < sizeLine ∧ ∃ rs : List (Bool × D), All2 (fun d r => NTf B scope ρ i c elt d r.1 r.2) ks rs ∧ k (.lst ((rs.filter (·.1)).map (·.2))))) : LcI B ρ tg iter [c] elt scope [(y, i)] (gName i) k :=
  lci_n (td_name i) hi_one (h.mono fun d ⟨ks, ds, e, q1, rs, q2, q3⟩ => ⟨_, ks, ds, e, q1, rs.map fun r => if r.1 then some r.2 else none, q2.to fun _ _ h => h.turn, by rw [fm_if]; exact q3⟩)
end
end Fz
/-! stages: chances and means of tables of up to 21 seats, their sizes -/
namespace Fz
/-- the chance to be at the right end, k + 1 seats having had it -/
def stC (r : Rat) : Nat → Rat
  | 0 => 1
  | k + 1 => stC r k * partQ r (k + 1) (k + 1 + 1) + (1 - stC r k) * partQ r 1 (1 + (k + 1))
def mnQ (l r s : Int) (a b : Nat) : Rat := if l = r then ((((a : Int) * b * (l + r + s)) : Int) : Rat) / ((l + r : Int) : Rat) else (((a + b : Nat) : Rat) * partQ ((l : Rat) / (r : Rat)) a (a + b) - (a : Rat)) * (((l + r + s : Int) : Rat) / ((r - l : Int) : Rat))
/-- the mean of the stage -/
def stM (l r s : Int) (k : Nat) : Rat := stC ((l : Rat) / (r : Rat)) k * mnQ l r s (k + 1) 1 + (1 - stC ((l : Rat) / (r : Rat)) k) * mnQ l r s 1 (k + 1)
def qszB (a : Nat) (q : Rat) : Bool := decide (q.num.natAbs < 2 ^ a) && decide (q.den < 2 ^ a)
theorem qsz_of {a : Nat} {q : Rat} (h : qszB a q = true) : QSz a q := by
  obtain ⟨h1, h2⟩ := Bool.and_eq_true_iff.mp h
  exact ⟨of_decide_eq_true h1, of_decide_eq_true h2⟩
def stChk (l r : Int) (k : Nat) : Bool :=
  let q := (l : Rat) / (r : Rat)
  qszB 1000 (stC q k) && (qszB 1000 (stC q k * partQ q (k + 1) (k + 1 + 1)) && qszB 1000 ((1 - stC q k) * partQ q 1 (1 + (k + 1))))
def stChkM (l r s : Int) (k : Nat) : Bool :=
  let q := (l : Rat) / (r : Rat)
  qszB 1000 (stC q k * mnQ l r s (k + 1) 1) && qszB 1000 ((1 - stC q k) * mnQ l r s 1 (k + 1))
theorem st_all : ((List.range 9).all fun l => (List.range 9).all fun r => (List.range 20).all fun k => stChk ((l : Int) + 1) ((r : Int) + 1) k && stChkM ((l : Int) + 1) ((r : Int) + 1) 0 k) = true := by decide +kernel
theorem st_at {l r : Int} {k : Nat} (l1 : 1 ≤ l) (l9 : l ≤ 9) (r1 : 1 ≤ r) (r9 : r ≤ 9) (hk : k < 20) : stChk l r k = true ∧ stChkM l r 0 k = true := by
  have h := List.all_eq_true.mp st_all (l - 1).toNat (List.mem_range.mpr (by omega))
  have h := List.all_eq_true.mp h (r - 1).toNat (List.mem_range.mpr (by omega))
  have h := List.all_eq_true.mp h k (List.mem_range.mpr hk)
  rw [show (((l - 1).toNat : Nat) : Int) + 1 = l by omega, show (((r - 1).toNat : Nat) : Int) + 1 = r by omega] at h
  exact Bool.and_eq_true_iff.mp h
theorem stC_sz {l r : Int} {k : Nat} (l1 : 1 ≤ l) (l9 : l ≤ 9) (r1 : 1 ≤ r) (r9 : r ≤ 9) (hk : k < 20) :
    QSz 1000 (stC ((l : Rat) / (r : Rat)) k) ∧ QSz 1000 (stC ((l : Rat) / (r : Rat)) k * partQ ((l : Rat) / (r : Rat)) (k + 1) (k + 1 + 1)) ∧ QSz 1000 ((1 - stC ((l : Rat) / (r : Rat)) k) * partQ ((l : Rat) / (r : Rat)) 1 (1 + (k + 1))) := by
  obtain ⟨h1, h2⟩ := Bool.and_eq_true_iff.mp (st_at l1 l9 r1 r9 hk).1
  obtain ⟨h2, h3⟩ := Bool.and_eq_true_iff.mp h2
  exact ⟨qsz_of h1, qsz_of h2, qsz_of h3⟩
theorem mnQ_scale {l r s : Int} (h : (l : Rat) + (r : Rat) ≠ 0) (a b : Nat) : mnQ l r s a b = mnQ l r 0 a b * (((l + r + s : Int) : Rat) / ((l + r : Int) : Rat)) := by
  have e : ((l + r : Int) : Rat) * ((l + r : Int) : Rat)⁻¹ = 1 := Rat.mul_inv_cancel _ (by rw [Rat.intCast_add]; exact h)
  unfold mnQ
  split
  · rw [Rat.div_def, Rat.div_def, Rat.div_def, Rat.intCast_mul _ (l + r + s), Rat.intCast_mul _ (l + r + 0), Int.add_zero]
    generalize ((l + r : Int) : Rat)⁻¹ = w at e
    generalize ((l + r : Int) : Rat) = v at e
    generalize (((a : Int) * b : Int) : Rat) = x
    generalize ((l + r + s : Int) : Rat) = t
    have e2 : x * v * w * (t * w) = x * (v * w) * (t * w) := by grind
    rw [e2, e]
    grind
  · rw [Rat.div_def _ ((r - l : Int) : Rat), Rat.div_def _ ((r - l : Int) : Rat), Rat.div_def _ ((l + r : Int) : Rat), Int.add_zero]
    generalize ((l + r : Int) : Rat)⁻¹ = w at e
    generalize ((l + r : Int) : Rat) = v at e
    generalize ((a + b : Nat) : Rat) * partQ ((l : Rat) / (r : Rat)) a (a + b) - (a : Rat) = x
    generalize ((r - l : Int) : Rat)⁻¹ = y
    generalize ((l + r + s : Int) : Rat) = t
    have e2 : x * (v * y) * (t * w) = x * y * t * (v * w) := by grind
    rw [e2, e]
    grind
theorem stM_sz {l r s : Int} {k : Nat} (l1 : 1 ≤ l) (l9 : l ≤ 9) (r1 : 1 ≤ r) (r9 : r ≤ 9) (s0 : 0 ≤ s) (s9 : s ≤ 9) (hk : k < 20) :
    QSz 1040 (stC ((l : Rat) / (r : Rat)) k * mnQ l r s (k + 1) 1) ∧ QSz 1040 ((1 - stC ((l : Rat) / (r : Rat)) k) * mnQ l r s 1 (k + 1)) := by
  obtain ⟨h1, h2⟩ := Bool.and_eq_true_iff.mp (st_at l1 l9 r1 r9 hk).2
  have h0 : (l : Rat) + (r : Rat) ≠ 0 := by
    rw [← Rat.intCast_add]
    intro z
    have := Rat.intCast_eq_zero_iff.mp z
    omega
  have hs : QSz 20 (((l + r + s : Int) : Rat) / ((l + r : Int) : Rat)) := by
    rw [← Rat.divInt_eq_div]
    exact QSz.ofDiv (by omega) (Sz.small 20 (by omega) (by omega)) (Sz.small 20 (by omega) (by omega))
  rw [mnQ_scale (s := s) h0 (k + 1) 1, mnQ_scale (s := s) h0 1 (k + 1), ← Rat.mul_assoc, ← Rat.mul_assoc]
  exact ⟨(qsz_of h1).mul hs (c := 1040), (qsz_of h2).mul hs (c := 1040)⟩
end Fz
/-! rows of weights, led on step by step -/
namespace Fz
section
variable {κ : Type} [DecidableEq κ]
def gLook : List (κ × Rat) → κ → Option Rat
  | [], _ => none
  | p :: r, k => if p.1 = k then some p.2 else gLook r k
def gSet : List (κ × Rat) → κ → Rat → List (κ × Rat)
  | [], _, _ => []
  | p :: r, k, q => (if p.1 = k then (p.1, q) else p) :: gSet r k q
def gPut (row : List (κ × Rat)) (k : κ) (q : Rat) : List (κ × Rat) := if (gLook row k).isSome then gSet row k q else row ++ [(k, q)]
def gAdd (row : List (κ × Rat)) (k : κ) (q : Rat) : List (κ × Rat) := gPut row k ((gLook row k).getD 0 + q)
def wsum (f : κ → Rat) : List (κ × Rat) → Rat
  | [] => 0
  | p :: r => p.2 * f p.1 + wsum f r
theorem wsum_append (f : κ → Rat) : ∀ a b, wsum f (a ++ b) = wsum f a + wsum f b
  | [], b => by show wsum f b = 0 + wsum f b; rw [Rat.zero_add]
  | p :: a, b => by
    show p.2 * f p.1 + wsum f (a ++ b) = p.2 * f p.1 + wsum f a + wsum f b
    rw [wsum_append f a b, Rat.add_assoc]
theorem gSet_keys (k : κ) (q : Rat) : ∀ row, (gSet row k q).map (·.1) = row.map (·.1)
  | [] => rfl
  | p :: r => by
    rw [gSet, List.map_cons, List.map_cons, gSet_keys k q r]
    by_cases e : p.1 = k
    · rw [if_pos e]
    · rw [if_neg e]
theorem gSet_same {k : κ} {q : Rat} : ∀ {row : List (κ × Rat)}, k ∉ row.map (·.1) → gSet row k q = row
  | [], _ => rfl
  | p :: r, h => by
    rw [List.map_cons, List.mem_cons, not_or] at h
    rw [gSet, if_neg (fun e => h.1 e.symm), gSet_same h.2]
theorem gLook_none {k : κ} : ∀ {row : List (κ × Rat)}, gLook row k = none ↔ k ∉ row.map (·.1)
  | [] => ⟨fun _ => fun z => (nomatch z), fun _ => rfl⟩
  | p :: r => by
    rw [gLook, List.map_cons, List.mem_cons, not_or]
    by_cases e : p.1 = k
    · rw [if_pos e]
      exact ⟨fun z => (nomatch z), fun z => absurd e.symm z.1⟩
    · rw [if_neg e, gLook_none]
      exact ⟨fun z => ⟨fun y => e y.symm, z⟩, fun z => z.2⟩
theorem gLook_mem {k : κ} {q : Rat} : ∀ {row : List (κ × Rat)}, gLook row k = some q → (k, q) ∈ row
  | [], h => (nomatch h)
  | p :: r, h => by
    rw [gLook] at h
    split at h
    · next e => cases h; rw [← e]; exact .head _
    · exact .tail _ (gLook_mem h)
theorem gLook_at {k : κ} {q : Rat} : ∀ {row : List (κ × Rat)}, (row.map (·.1)).Nodup → (k, q) ∈ row → gLook row k = some q
  | [], _, h => (nomatch h)
  | p :: r, nd, h => by
    rw [List.map_cons, List.nodup_cons] at nd
    rw [gLook]
    rcases List.mem_cons.mp h with e | h
    · rw [← e, if_pos rfl]
    · have hm : k ∈ r.map (·.1) := List.mem_map_of_mem (f := (·.1)) h
      rw [if_neg fun (e : p.1 = k) => nd.1 (by rw [e]; exact hm)]
      exact gLook_at nd.2 h
theorem gSet_wsum (f : κ → Rat) {k : κ} {q q0 : Rat} : ∀ {row : List (κ × Rat)}, (row.map (·.1)).Nodup → gLook row k = some q0 → wsum f (gSet row k q) = wsum f row + (q - q0) * f k
  | [], _, h => (nomatch h)
  | p :: r, nd, h => by
    rw [List.map_cons, List.nodup_cons] at nd
    rw [gLook] at h
    rw [gSet]
    by_cases e : p.1 = k
    · rw [if_pos e] at h ⊢
      cases h
      rw [gSet_same (by rw [← e]; exact nd.1)]
      show q * f p.1 + wsum f r = p.2 * f p.1 + wsum f r + (q - p.2) * f k
      rw [e]
      grind
    · rw [if_neg e] at h ⊢
      show p.2 * f p.1 + wsum f (gSet r k q) = p.2 * f p.1 + wsum f r + (q - q0) * f k
      rw [gSet_wsum f nd.2 h, Rat.add_assoc]
theorem gAdd_wsum (f : κ → Rat) {k : κ} {q : Rat} {row : List (κ × Rat)} (nd : (row.map (·.1)).Nodup) : wsum f (gAdd row k q) = wsum f row + q * f k := by
  unfold gAdd gPut
  cases h : gLook row k with
  | none =>
    rw [show (none : Option Rat).isSome = false from rfl, if_neg Bool.false_ne_true, wsum_append]
    show wsum f row + ((0 + q) * f k + 0) = _
    rw [Rat.zero_add, Rat.add_zero]
  | some q0 =>
    rw [show (some q0 : Option Rat).isSome = true from rfl, if_pos rfl, gSet_wsum f nd h]
    show wsum f row + (q0 + q - q0) * f k = _
    rw [show q0 + q - q0 = q by grind]
theorem gAdd_keys (row : List (κ × Rat)) (k : κ) (q : Rat) : (gAdd row k q).map (·.1) = if k ∈ row.map (·.1) then row.map (·.1) else row.map (·.1) ++ [k] := by
  unfold gAdd gPut
  cases h : gLook row k with
  | none =>
    rw [show (none : Option Rat).isSome = false from rfl, if_neg Bool.false_ne_true, if_neg (gLook_none.mp h), List.map_append]
    rfl
  | some q0 =>
    have hm : k ∈ row.map (·.1) := List.mem_map_of_mem (f := (·.1)) (gLook_mem h)
    rw [show (some q0 : Option Rat).isSome = true from rfl, if_pos rfl, if_pos hm, gSet_keys]
theorem gAdd_nodup {k : κ} {q : Rat} {row : List (κ × Rat)} (nd : (row.map (·.1)).Nodup) : ((gAdd row k q).map (·.1)).Nodup := by
  rw [gAdd_keys]
  split
  · exact nd
  · next h => exact List.nodup_append.mpr ⟨nd, List.nodup_cons.mpr ⟨fun z => (nomatch z), List.nodup_nil⟩, fun a ha b hb e => h (by rw [← List.mem_singleton.mp hb, ← e]; exact ha)⟩
theorem gAdd_len (row : List (κ × Rat)) (k : κ) (q : Rat) : (gAdd row k q).length ≤ row.length + 1 := by
  have h := congrArg List.length (gAdd_keys row k q)
  rw [List.length_map] at h
  rw [h]
  split
  · rw [List.length_map]; omega
  · rw [List.length_append, List.length_map]; exact Nat.le_refl _
theorem gSet_mem {k : κ} {q : Rat} {x : κ × Rat} : ∀ {row : List (κ × Rat)}, x ∈ gSet row k q → x ∈ row ∨ x.2 = q
  | [], h => (nomatch h)
  | p :: r, h => by
    rw [gSet] at h
    rcases List.mem_cons.mp h with h | h
    · split at h
      · exact .inr (by rw [h])
      · exact .inl (by rw [h]; exact .head _)
    · exact (gSet_mem h).imp (fun z => .tail _ z) id
theorem gAdd_all {P : Rat → Prop} {k : κ} {q : Rat} {row : List (κ × Rat)} (h : ∀ x ∈ row, P x.2) (h0 : P 0) (hq : P q) (ha : ∀ a b, P a → P b → P (a + b)) : ∀ x ∈ gAdd row k q, P x.2 := fun x hx => by
  have hl : P ((gLook row k).getD 0) := by
    cases e : gLook row k with
    | none => exact h0
    | some q0 => exact h _ (gLook_mem e)
  unfold gAdd gPut at hx
  split at hx
  · rcases gSet_mem hx with z | z
    · exact h x z
    · rw [z]; exact ha _ _ hl hq
  · rcases List.mem_append.mp hx with z | z
    · exact h x z
    · rw [List.mem_singleton.mp z]; exact ha _ _ hl hq
theorem gAdd_kall {V : κ → Prop} {k : κ} {q : Rat} {row : List (κ × Rat)} (h : ∀ x ∈ row, V x.1) (hk : V k) : ∀ x ∈ gAdd row k q, V x.1 := fun x hx => by
  have hm : x.1 ∈ (gAdd row k q).map (·.1) := List.mem_map_of_mem (f := (·.1)) hx
  have old : ∀ y ∈ row.map (·.1), V y := fun y hy => by
    obtain ⟨p, hp, rfl⟩ := List.mem_map.mp hy
    exact h p hp
  rw [gAdd_keys] at hm
  split at hm
  · exact old _ hm
  · rcases List.mem_append.mp hm with z | z
    · exact old _ z
    · rw [List.mem_singleton.mp z]; exact hk
/-! ### one step -/
/-- the shares ss of a part added -/
def gIn (part : Rat) (ss acc : List (κ × Rat)) : List (κ × Rat) := ss.foldl (fun a s => gAdd a s.1 (part * s.2)) acc
variable (tr : κ → List (κ × Rat))
def gTo (row : List (κ × Rat)) : List (κ × Rat) := row.foldl (fun a p => gIn p.2 (tr p.1) a) []
theorem gIn_succ {part : Rat} {ss acc : List (κ × Rat)} {i : Nat} {s : κ × Rat} (h : ss[i]? = some s) : gIn part (ss.take (i + 1)) acc = gAdd (gIn part (ss.take i) acc) s.1 (part * s.2) := by
  unfold gIn
  rw [List.take_add_one, h, Option.toList_some, List.foldl_append]
  rfl
theorem gTo_succ {row : List (κ × Rat)} {j : Nat} {p : κ × Rat} (h : row[j]? = some p) : gTo tr (row.take (j + 1)) = gIn p.2 (tr p.1) (gTo tr (row.take j)) := by
  unfold gTo
  rw [List.take_add_one, h, Option.toList_some, List.foldl_append]
  rfl
theorem gIn_nodup (part : Rat) : ∀ (ss acc : List (κ × Rat)), (acc.map (·.1)).Nodup → ((gIn part ss acc).map (·.1)).Nodup
  | [], _, h => h
  | s :: ss, acc, h => gIn_nodup part ss _ (gAdd_nodup h)
theorem gIn_wsum (f : κ → Rat) (part : Rat) : ∀ (ss acc : List (κ × Rat)), (acc.map (·.1)).Nodup → wsum f (gIn part ss acc) = wsum f acc + part * wsum f ss
  | [], acc, _ => by show wsum f acc = wsum f acc + part * 0; rw [Rat.mul_zero, Rat.add_zero]
  | s :: ss, acc, h => by
    show wsum f (gIn part ss (gAdd acc s.1 (part * s.2))) = wsum f acc + part * (s.2 * f s.1 + wsum f ss)
    rw [gIn_wsum f part ss _ (gAdd_nodup h), gAdd_wsum f h]
    grind
theorem gIn_len (part : Rat) : ∀ (ss acc : List (κ × Rat)), (gIn part ss acc).length ≤ acc.length + ss.length
  | [], acc => Nat.le_refl _
  | s :: ss, acc => by
    have h1 := gIn_len part ss (gAdd acc s.1 (part * s.2))
    have h2 := gAdd_len acc s.1 (part * s.2)
    show (gIn part ss (gAdd acc s.1 (part * s.2))).length ≤ acc.length + (ss.length + 1)
    omega
theorem gIn_kall {V : κ → Prop} (part : Rat) : ∀ (ss acc : List (κ × Rat)), (∀ x ∈ acc, V x.1) → (∀ s ∈ ss, V s.1) → ∀ x ∈ gIn part ss acc, V x.1
  | [], _, h, _ => h
  | s :: ss, acc, h, hs => gIn_kall part ss _ (gAdd_kall h (hs s (.head _))) fun x hx => hs x (.tail _ hx)
theorem gIn_all {P : Rat → Prop} (part : Rat) (h0 : P 0) (ha : ∀ a b, P a → P b → P (a + b)) : ∀ (ss acc : List (κ × Rat)), (∀ x ∈ acc, P x.2) → (∀ s ∈ ss, P (part * s.2)) → ∀ x ∈ gIn part ss acc, P x.2
  | [], _, h, _ => h
  | s :: ss, acc, h, hs => gIn_all part h0 ha ss _ (gAdd_all h h0 (hs s (.head _)) ha) fun x hx => hs x (.tail _ hx)
theorem foldl_snoc {α β : Type} (f : β → α → β) (b : β) (l : List α) (a : α) : (l ++ [a]).foldl f b = f (l.foldl f b) a := by rw [List.foldl_append]; rfl
theorem gTo_nodup (row : List (κ × Rat)) : ((gTo tr row).map (·.1)).Nodup := by
  unfold gTo
  generalize hacc : ([] : List (κ × Rat)) = acc
  have h0 : (acc.map (·.1)).Nodup := by rw [← hacc]; exact List.nodup_nil
  clear hacc
  induction row generalizing acc with
  | nil => exact h0
  | cons p r ih => exact ih _ (gIn_nodup p.2 (tr p.1) acc h0)
theorem gTo_wsum (f : κ → Rat) (row : List (κ × Rat)) : wsum f (gTo tr row) = wsum (fun k => wsum f (tr k)) row := by
  have h : ∀ (row acc : List (κ × Rat)), (acc.map (·.1)).Nodup → wsum f (row.foldl (fun a p => gIn p.2 (tr p.1) a) acc) = wsum f acc + wsum (fun k => wsum f (tr k)) row := fun row => by
    induction row with
    | nil => exact fun acc _ => (Rat.add_zero _).symm
    | cons p r ih =>
      intro acc nd
      show wsum f (r.foldl (fun a p => gIn p.2 (tr p.1) a) (gIn p.2 (tr p.1) acc)) = wsum f acc + (p.2 * wsum f (tr p.1) + wsum (fun k => wsum f (tr k)) r)
      rw [ih _ (gIn_nodup _ _ _ nd), gIn_wsum f _ _ _ nd, Rat.add_assoc]
  unfold gTo
  rw [h row [] List.nodup_nil]
  exact Rat.zero_add _
theorem gTo_len {m : Nat} (hm : ∀ k, (tr k).length ≤ m) : ∀ row : List (κ × Rat), (gTo tr row).length ≤ m * row.length := fun row => by
  have h : ∀ (row acc : List (κ × Rat)), (row.foldl (fun a p => gIn p.2 (tr p.1) a) acc).length ≤ acc.length + m * row.length := fun row => by
    induction row with
    | nil => exact fun acc => Nat.le_refl _
    | cons p r ih =>
      intro acc
      have h1 := ih (gIn p.2 (tr p.1) acc)
      have h2 := gIn_len p.2 (tr p.1) acc
      have h3 := hm p.1
      rw [List.length_cons, Nat.mul_succ]
      show (r.foldl (fun a p => gIn p.2 (tr p.1) a) (gIn p.2 (tr p.1) acc)).length ≤ _
      omega
  have := h row []
  rw [List.length_nil, Nat.zero_add] at this
  exact this
theorem gTo_kall {V : κ → Prop} : ∀ row : List (κ × Rat), (∀ x ∈ row, ∀ s ∈ tr x.1, V s.1) → ∀ x ∈ gTo tr row, V x.1 := fun row => by
  have h : ∀ (row acc : List (κ × Rat)), (∀ x ∈ acc, V x.1) → (∀ x ∈ row, ∀ s ∈ tr x.1, V s.1) → ∀ x ∈ row.foldl (fun a p => gIn p.2 (tr p.1) a) acc, V x.1 := fun row => by
    induction row with
    | nil => exact fun acc h _ => h
    | cons p r ih => exact fun acc h1 h2 => ih _ (gIn_kall p.2 (tr p.1) acc h1 (h2 p (.head _))) fun x hx => h2 x (.tail _ hx)
  exact h row [] fun x hx => (nomatch hx)
theorem gTo_all {P : Rat → Prop} (h0 : P 0) (ha : ∀ a b, P a → P b → P (a + b)) : ∀ row : List (κ × Rat), (∀ x ∈ row, ∀ s ∈ tr x.1, P (x.2 * s.2)) → ∀ x ∈ gTo tr row, P x.2 := fun row => by
  have h : ∀ (row acc : List (κ × Rat)), (∀ x ∈ acc, P x.2) → (∀ x ∈ row, ∀ s ∈ tr x.1, P (x.2 * s.2)) → ∀ x ∈ row.foldl (fun a p => gIn p.2 (tr p.1) a) acc, P x.2 := fun row => by
    induction row with
    | nil => exact fun acc h _ => h
    | cons p r ih => exact fun acc h1 h2 => ih _ (gIn_all p.2 h0 ha (tr p.1) acc h1 (h2 p (.head _))) fun x hx => h2 x (.tail _ hx)
  exact h row [] fun x hx => (nomatch hx)
/-! ### all steps -/
def gRows (k0 : κ) : Nat → List (κ × Rat)
  | 0 => [(k0, 1)]
  | t + 1 => gTo tr (gRows k0 t)
def gIt : Nat → (κ → Rat) → κ → Rat
  | 0, f => f
  | t + 1, f => gIt t fun k => wsum f (tr k)
theorem gRows_wsum (k0 : κ) : ∀ (t : Nat) (f : κ → Rat), wsum f (gRows tr k0 t) = gIt tr t f k0
  | 0, f => by show 1 * f k0 + 0 = f k0; rw [Rat.one_mul, Rat.add_zero]
  | t + 1, f => by
    show wsum f (gTo tr (gRows tr k0 t)) = gIt tr t (fun k => wsum f (tr k)) k0
    rw [gTo_wsum, gRows_wsum]
theorem gRows_nodup (k0 : κ) : ∀ t, ((gRows tr k0 t).map (·.1)).Nodup
  | 0 => List.nodup_cons.mpr ⟨fun z => (nomatch z), List.nodup_nil⟩
  | t + 1 => gTo_nodup tr _
theorem gRows_len {m : Nat} (hm : ∀ k, (tr k).length ≤ m) (k0 : κ) : ∀ t, (gRows tr k0 t).length ≤ m ^ t
  | 0 => Nat.le_refl _
  | t + 1 => by
    have h := gTo_len tr hm (gRows tr k0 t)
    have h2 := Nat.mul_le_mul_left m (gRows_len hm k0 t)
    rw [Nat.pow_succ, Nat.mul_comm]
    exact Nat.le_trans h h2
theorem gRows_kall {V : κ → Prop} {k0 : κ} (h0 : V k0) (hs : ∀ k, V k → ∀ s ∈ tr k, V s.1) : ∀ t, ∀ x ∈ gRows tr k0 t, V x.1
  | 0 => fun x hx => by rw [List.mem_singleton.mp hx]; exact h0
  | t + 1 => gTo_kall tr _ fun x hx => hs _ (gRows_kall h0 hs t x hx)
/-! ### those at an end -/
def endL (e : κ → Bool) (row : List (κ × Rat)) : List Rat := (row.filter fun p => e p.1).map (·.2)
def indE (e : κ → Bool) (k : κ) : Rat := if e k = true then 1 else 0
theorem endL_sum (e : κ → Bool) : ∀ row : List (κ × Rat), (endL e row).sum = wsum (indE e) row
  | [] => rfl
  | p :: r => by
    have ih := endL_sum e r
    unfold endL at ih ⊢
    show _ = p.2 * indE e p.1 + wsum (indE e) r
    rw [List.filter_cons, ← ih]
    unfold indE
    cases h : e p.1 with
    | true => rw [if_pos rfl, if_pos rfl, List.map_cons, List.sum_cons, Rat.mul_one]
    | false => rw [if_neg Bool.false_ne_true, if_neg Bool.false_ne_true, Rat.mul_zero, Rat.zero_add]
theorem sum_nonneg : ∀ {l : List Rat}, (∀ q ∈ l, 0 ≤ q) → 0 ≤ l.sum
  | [], _ => Rat.le_refl
  | q :: l, h => by
    rw [List.sum_cons]
    exact Rat.add_nonneg (h q (.head _)) (sum_nonneg fun x hx => h x (.tail _ hx))
theorem take_sum_le : ∀ {l : List Rat} (j : Nat), (∀ q ∈ l, 0 ≤ q) → (l.take j).sum ≤ l.sum
  | [], j, _ => by rw [List.take_nil]; exact Rat.le_refl
  | q :: l, 0, h => sum_nonneg h
  | q :: l, j + 1, h => by
    rw [List.take_succ_cons, List.sum_cons, List.sum_cons]
    exact Rat.add_le_add_left.mpr (take_sum_le j fun x hx => h x (.tail _ hx))
theorem wsum_mono {f g : κ → Rat} (h : ∀ k, f k ≤ g k) : ∀ {row : List (κ × Rat)}, (∀ p ∈ row, 0 ≤ p.2) → wsum f row ≤ wsum g row
  | [], _ => Rat.le_refl
  | p :: r, hn => by
    have h1 := wsum_mono h (row := r) fun x hx => hn x (.tail _ hx)
    have h2 := Rat.mul_le_mul_of_nonneg_left (h p.1) (hn p (.head _))
    show p.2 * f p.1 + wsum f r ≤ p.2 * g p.1 + wsum g r
    exact Rat.le_trans (Rat.add_le_add_left.mpr h1) (Rat.add_le_add_right.mpr h2)
abbrev one1 : κ → Rat := fun _ => 1
theorem wsum_one_nonneg : ∀ {row : List (κ × Rat)}, (∀ p ∈ row, 0 ≤ p.2) → 0 ≤ wsum one1 row
  | [], _ => Rat.le_refl
  | p :: r, hn => by
    show 0 ≤ p.2 * 1 + wsum one1 r
    rw [Rat.mul_one]
    exact Rat.add_nonneg (hn p (.head _)) (wsum_one_nonneg fun x hx => hn x (.tail _ hx))
theorem wsum_one_take : ∀ {row : List (κ × Rat)} (j : Nat), (∀ p ∈ row, 0 ≤ p.2) → wsum one1 (row.take j) ≤ wsum one1 row
  | [], j, _ => by rw [List.take_nil]; exact Rat.le_refl
  | p :: r, 0, hn => wsum_one_nonneg hn
  | p :: r, j + 1, hn => Rat.add_le_add_left.mpr (wsum_one_take j fun x hx => hn x (.tail _ hx))
theorem wsum_one_mem : ∀ {row : List (κ × Rat)}, (∀ p ∈ row, 0 ≤ p.2) → ∀ p ∈ row, p.2 ≤ wsum one1 row
  | [], _, p, hp => (nomatch hp)
  | p0 :: r, hn, p, hp => by
    have h0 := wsum_one_nonneg (row := r) fun x hx => hn x (.tail _ hx)
    have h1 := hn p0 (.head _)
    show p.2 ≤ p0.2 * 1 + wsum one1 r
    rw [Rat.mul_one]
    rcases List.mem_cons.mp hp with rfl | hp
    · grind
    · have h2 := wsum_one_mem (row := r) (fun x hx => hn x (.tail _ hx)) p hp
      grind
/-! ### sizes -/
/-- a share of W parts, t times -/
def Lev (W : Int) (t : Nat) (q : Rat) : Prop := 0 ≤ q ∧ ∃ a : Int, q * (W : Rat) ^ t = (a : Rat)
theorem Lev.zero {W : Int} {t : Nat} : Lev W t 0 := ⟨Rat.le_refl, 0, by rw [Rat.zero_mul]; rfl⟩
theorem Lev.add {W : Int} {t : Nat} {a b : Rat} (h : Lev W t a) (g : Lev W t b) : Lev W t (a + b) := by
  obtain ⟨h0, x, hx⟩ := h
  obtain ⟨g0, y, hy⟩ := g
  exact ⟨Rat.add_nonneg h0 g0, x + y, by rw [Rat.add_mul, hx, hy, Rat.intCast_add]⟩
theorem Lev.mul {W : Int} {t : Nat} {a b : Rat} (h : Lev W t a) (g : Lev W 1 b) : Lev W (t + 1) (a * b) := by
  obtain ⟨h0, x, hx⟩ := h
  obtain ⟨g0, y, hy⟩ := g
  refine ⟨Rat.mul_nonneg h0 g0, x * y, ?_⟩
  rw [Rat.pow_succ, Rat.intCast_mul, ← hx, ← hy, Rat.pow_succ, Rat.pow_zero, Rat.one_mul]
  grind
theorem Lev.of {W : Int} (hW : 0 < W) {a : Int} (ha : 0 ≤ a) : Lev W 1 (Rat.divInt a W) := by
  have hW0 : (W : Rat) ≠ 0 := fun z => by have := Rat.intCast_eq_zero_iff.mp z; omega
  refine ⟨Rat.divInt_nonneg ha (by omega), a, ?_⟩
  rw [Rat.divInt_eq_div, Rat.pow_succ, Rat.pow_zero, Rat.one_mul, Rat.div_mul_cancel hW0]
theorem Lev.one {W : Int} : Lev W 0 1 := ⟨by decide, 1, by rw [Rat.pow_zero, Rat.mul_one]; rfl⟩
theorem Lev.sum {W : Int} {t : Nat} : ∀ {l : List Rat}, (∀ q ∈ l, Lev W t q) → Lev W t l.sum
  | [], _ => .zero
  | q :: l, h => by
    rw [List.sum_cons]
    exact (h q (.head _)).add (Lev.sum fun x hx => h x (.tail _ hx))
theorem Lev.sz {W : Int} (h1 : 1 ≤ W) (h2 : W ≤ 31) {t : Nat} (ht : t ≤ 100) {q : Rat} (h : Lev W t q) (hq : q ≤ 1) : QSz 501 q := by
  obtain ⟨h0, a, ha⟩ := h
  have hW0 : (W : Rat) ^ t ≠ 0 := by
    rw [← Rat.intCast_pow]
    intro z
    have z := Rat.intCast_eq_zero_iff.mp z
    have := Int.pow_pos (n := W) (m := t) (by omega)
    omega
  have hWp : (0 : Rat) ≤ (W : Rat) ^ t := Rat.pow_nonneg (Rat.intCast_nonneg.mpr (by omega))
  have e : q = Rat.divInt a (W ^ t) := by
    rw [Rat.divInt_eq_div, Rat.intCast_pow, ← ha, Rat.mul_div_cancel hW0]
  have a0 : 0 ≤ a := by
    rw [← Rat.intCast_nonneg, ← ha]
    exact Rat.mul_nonneg h0 hWp
  have a1 : a ≤ W ^ t := by
    rw [← Rat.intCast_le_intCast, ← ha, Rat.intCast_pow]
    have := Rat.mul_le_mul_of_nonneg_right hq hWp
    rwa [Rat.one_mul] at this
  have hp : W ^ t < 2 ^ 501 := by
    obtain ⟨w, rfl⟩ := Int.eq_ofNat_of_zero_le (show 0 ≤ W by omega)
    have h3 : w ^ t ≤ 32 ^ 100 := Nat.le_trans (Nat.pow_le_pow_left (show w ≤ 32 by omega) t) (Nat.pow_le_pow_right (by decide) ht)
    have h4 : (32 : Nat) ^ 100 < 2 ^ 501 := by decide
    have h5 : ((w ^ t : Nat) : Int) < ((2 ^ 501 : Nat) : Int) := Int.ofNat_lt.mpr (Nat.lt_of_le_of_lt h3 h4)
    rw [Int.natCast_pow, Int.natCast_pow] at h5
    exact h5
  rw [e]
  have hpos := Int.pow_pos (n := W) (m := t) (by omega)
  generalize W ^ t = d at *
  have s1 : Sz 501 a := by unfold Sz; omega
  have s2 : Sz 501 d := by unfold Sz; omega
  exact QSz.ofDiv (by omega) s1 s2
/-- the rows' values -/
structure TrOk (W : Int) (tr : κ → List (κ × Rat)) : Prop where
  lev : ∀ k, ∀ s ∈ tr k, Lev W 1 s.2
  mass : ∀ k, wsum one1 (tr k) ≤ 1
variable {tr}
theorem gRows_lev {W : Int} (h : TrOk W tr) (k0 : κ) : ∀ t, (∀ p ∈ gRows tr k0 t, Lev W t p.2) ∧ wsum one1 (gRows tr k0 t) ≤ 1
  | 0 => ⟨fun p hp => by rw [List.mem_singleton.mp hp]; exact .one, by show (1 : Rat) * 1 + 0 ≤ 1; rw [Rat.mul_one, Rat.add_zero]; exact Rat.le_refl⟩
  | t + 1 => by
    obtain ⟨h1, h2⟩ := gRows_lev h k0 t
    refine ⟨gTo_all tr .zero (fun a b => .add) _ fun x hx s hs => (h1 x hx).mul (h.lev _ s hs), ?_⟩
    show wsum one1 (gTo tr (gRows tr k0 t)) ≤ 1
    rw [gTo_wsum]
    exact Rat.le_trans (wsum_mono (g := one1) h.mass fun p hp => (h1 p hp).1) h2
/-- all that is stored on the way from one row to the next -/
theorem gAcc_lev {W : Int} (h : TrOk W tr) {row : List (κ × Rat)} {t j i : Nat} {p : κ × Rat} (hr : ∀ p ∈ row, Lev W t p.2) (hm : wsum one1 row ≤ 1) (hp : row[j]? = some p) :
    (∀ x ∈ gIn p.2 ((tr p.1).take i) (gTo tr (row.take j)), Lev W (t + 1) x.2) ∧ wsum one1 (gIn p.2 ((tr p.1).take i) (gTo tr (row.take j))) ≤ 1 := by
  have hpm : p ∈ row := List.mem_of_getElem? hp
  have hrn : ∀ x ∈ row, 0 ≤ x.2 := fun x hx => (hr x hx).1
  refine ⟨gIn_all p.2 .zero (fun a b => .add) _ _ (gTo_all tr .zero (fun a b => .add) _ fun x hx s hs => (hr x (List.mem_of_mem_take hx)).mul (h.lev _ s hs)) fun s hs => (hr p hpm).mul (h.lev _ s (List.mem_of_mem_take hs)), ?_⟩
  rw [gIn_wsum one1 _ _ _ (gTo_nodup tr _), gTo_wsum]
  have a1 : wsum (fun k => wsum one1 (tr k)) (row.take j) ≤ wsum one1 (row.take j) := wsum_mono (g := one1) h.mass fun x hx => hrn x (List.mem_of_mem_take hx)
  have a2 : p.2 * wsum one1 ((tr p.1).take i) ≤ p.2 * 1 := Rat.mul_le_mul_of_nonneg_left (Rat.le_trans (wsum_one_take i fun s hs => (h.lev _ s hs).1) (h.mass _)) (hrn p hpm)
  have a3 : wsum one1 (row.take (j + 1)) = wsum one1 (row.take j) + p.2 * 1 := by
    rw [List.take_add_one, hp, Option.toList_some, wsum_append]
    show _ + (p.2 * 1 + 0) = _
    rw [Rat.add_zero]
  have a4 := wsum_one_take (row := row) (j + 1) hrn
  grind
theorem Lev.mem {W : Int} {t : Nat} {row : List (κ × Rat)} (hr : ∀ p ∈ row, Lev W t p.2) (hm : wsum one1 row ≤ 1) (h1 : 1 ≤ W) (h2 : W ≤ 31) (ht : t ≤ 100) : ∀ p ∈ row, QSz 501 p.2 := fun p hp =>
  (hr p hp).sz h1 h2 ht (Rat.le_trans (wsum_one_mem (fun x hx => (hr x hx).1) p hp) hm)
theorem Lev.look {W : Int} {t : Nat} {row : List (κ × Rat)} (hr : ∀ p ∈ row, Lev W t p.2) (hm : wsum one1 row ≤ 1) (h1 : 1 ≤ W) (h2 : W ≤ 31) (ht : t ≤ 100) (k : κ) : QSz 501 ((gLook row k).getD 0) := by
  cases e : gLook row k with
  | none => exact QSz.zero.mono (by decide)
  | some q => exact Lev.mem hr hm h1 h2 ht _ (gLook_mem e)
theorem endL_sz {W : Int} {t : Nat} {row : List (κ × Rat)} (e : κ → Bool) (hr : ∀ p ∈ row, Lev W t p.2) (hm : wsum one1 row ≤ 1) (h1 : 1 ≤ W) (h2 : W ≤ 31) (ht : t ≤ 100) : (∀ q ∈ endL e row, QSz 501 q) ∧ ∀ j, QSz 501 ((endL e row).take j).sum := by
  have hl : ∀ q ∈ endL e row, Lev W t q ∧ ∃ p ∈ row, p.2 = q := fun q hq => by
    unfold endL at hq
    obtain ⟨p, hp, rfl⟩ := List.mem_map.mp hq
    exact ⟨hr p (List.mem_filter.mp hp).1, p, (List.mem_filter.mp hp).1, rfl⟩
  refine ⟨fun q hq => ?_, fun j => ?_⟩
  · obtain ⟨_, p, hp, rfl⟩ := hl q hq
    exact Lev.mem hr hm h1 h2 ht p hp
  · refine (Lev.sum fun q hq => (hl q (List.mem_of_mem_take hq)).1).sz h1 h2 ht ?_
    refine Rat.le_trans (take_sum_le j fun q hq => (hl q hq).1.1) (Rat.le_trans ?_ hm)
    rw [endL_sum]
    refine wsum_mono (fun k => ?_) fun p hp => (hr p hp).1
    unfold indE
    split
    · exact Rat.le_refl
    · show (0 : Rat) ≤ 1
      decide
end
end Fz
/-! throws: by the places counted on, by the seats -/
namespace Fz
/-- low, high, place -/
abbrev PK := Int × Int × Int
/-- the place, those that have had it -/
abbrev LK := Int × List Int
def pLive (n : Nat) (k : PK) : Bool := decide (k.2.1 - k.1 < (n : Int) - 1)
def pEnd (n : Nat) (k : PK) : Bool := decide (k.2.1 - k.1 = (n : Int) - 1)
def nextP (k : PK) (s : Int) : PK := (min k.1 (k.2.2 + s), max k.2.1 (k.2.2 + s), k.2.2 + s)
def shs (l r st : Int) : List (Int × Int) := [(-1, l), (1, r), (0, st)]
def pSteps (l r st : Int) : List (Int × Rat) := ((shs l r st).filter fun s => decide (0 < s.2)).map fun s => (s.1, Rat.divInt s.2 (l + r + st))
def pTr (l r st : Int) (n : Nat) (k : PK) : List (PK × Rat) := if pLive n k = true then (pSteps l r st).map fun s => (nextP k s.1, s.2) else []
def lLive (n : Nat) (k : LK) : Bool := decide (k.2.length < n)
def lEnd (n : Nat) (k : LK) : Bool := decide (k.2.length = n)
def sortL (n : Nat) (xs : List Int) : List Int := ((List.range n).map Int.ofNat).filter fun x => decide (x ∈ xs)
def nextL (n : Nat) (k : LK) (s : Int) : LK := ((k.1 + s) % n, sortL n (k.2 ++ [(k.1 + s) % n]))
def lSteps (l r st : Int) : List (Int × Rat) := (shs l r st).map fun s => (s.1, Rat.divInt s.2 (l + r + st))
def lTr (l r st : Int) (n : Nat) (k : LK) : List (LK × Rat) := if lLive n k = true then (lSteps l r st).map fun s => (nextL n k s.1, s.2) else []
def phi (n : Nat) (k : PK) : LK := (k.2.2 % n, ((List.range n).map Int.ofNat).filter fun x => decide ((x - k.1) % n ≤ k.2.1 - k.1))
def okP (n : Nat) (k : PK) : Prop := k.1 ≤ 0 ∧ 0 ≤ k.2.1 ∧ k.2.1 - k.1 ≤ (n : Int) - 1 ∧ k.1 ≤ k.2.2 ∧ k.2.2 ≤ k.2.1
theorem okP_next {n : Nat} {k : PK} {s : Int} (h : okP n k) (hl : pLive n k = true) (hs : s = -1 ∨ s = 1 ∨ s = 0) : okP n (nextP k s) := by
  obtain ⟨a, b, c⟩ := k
  obtain ⟨h1, h2, h3, h4, h5⟩ := h
  have hl : b - a < (n : Int) - 1 := of_decide_eq_true hl
  dsimp only at h1 h2 h3 h4 h5
  unfold nextP okP
  dsimp only
  omega
def boxP (n : Nat) : List PK := (List.range n).flatMap fun i => (List.range n).flatMap fun j => (List.range (i + j + 1)).map fun (p : Nat) => ((-(i : Int), (j : Int), (p : Int) - (i : Int)) : PK)
theorem box_mem {n : Nat} {k : PK} (h : okP n k) : k ∈ boxP n := by
  obtain ⟨a, b, c⟩ := k
  obtain ⟨h1, h2, h3, h4, h5⟩ := h
  dsimp only at h1 h2 h3 h4 h5
  unfold boxP
  rw [List.mem_flatMap]
  refine ⟨(-a).toNat, List.mem_range.mpr (by omega), ?_⟩
  rw [List.mem_flatMap]
  refine ⟨b.toNat, List.mem_range.mpr (by omega), ?_⟩
  rw [List.mem_map]
  refine ⟨(c - a).toNat, List.mem_range.mpr (by omega), ?_⟩
  have e1 : -(((-a).toNat : Nat) : Int) = a := by omega
  have e2 : ((b.toNat : Nat) : Int) = b := by omega
  have e3 : (((c - a).toNat : Nat) : Int) - (((-a).toNat : Nat) : Int) = c := by omega
  rw [e1, e2, e3]
def phiChk (n : Nat) : Bool := (boxP n).all fun k => !decide (k.2.1 - k.1 ≤ (n : Int) - 1) || (pLive n k == lLive n (phi n k) && (pEnd n k == lEnd n (phi n k) && (!pLive n k || [-1, 1, 0].all fun s => decide (phi n (nextP k s) = nextL n (phi n k) s))))
theorem phi_all : ((List.range 5).all fun n => phiChk (n + 1) && decide (phi (n + 1) (0, 0, 0) = (0, [0]))) = true := by decide +kernel
theorem phi_at {n : Nat} (n1 : 1 ≤ n) (n5 : n ≤ 5) : phi n (0, 0, 0) = (0, [0]) ∧ ∀ k, okP n k → pLive n k = lLive n (phi n k) ∧ pEnd n k = lEnd n (phi n k) ∧ (pLive n k = true → ∀ s, s = -1 ∨ s = 1 ∨ s = 0 → phi n (nextP k s) = nextL n (phi n k) s) := by
  have h := List.all_eq_true.mp phi_all (n - 1) (List.mem_range.mpr (by omega))
  rw [show n - 1 + 1 = n by omega] at h
  obtain ⟨h1, h2⟩ := Bool.and_eq_true_iff.mp h
  refine ⟨of_decide_eq_true h2, fun k hk => ?_⟩
  have h3 := List.all_eq_true.mp h1 k (box_mem hk)
  rw [decide_eq_true hk.2.2.1, Bool.not_true, Bool.false_or] at h3
  obtain ⟨a1, a2⟩ := Bool.and_eq_true_iff.mp h3
  obtain ⟨a2, a3⟩ := Bool.and_eq_true_iff.mp a2
  refine ⟨eq_of_beq a1, eq_of_beq a2, fun hl s hs => ?_⟩
  rw [hl, Bool.not_true, Bool.false_or] at a3
  refine of_decide_eq_true (List.all_eq_true.mp a3 s ?_)
  rcases hs with rfl | rfl | rfl
  · exact .head _
  · exact .tail _ (.head _)
  · exact .tail _ (.tail _ (.head _))
theorem pSteps_eq {l r st : Int} (hl : 1 ≤ l) (hr : 1 ≤ r) (hs : 0 ≤ st) : (st = 0 ∧ pSteps l r st = [(-1, Rat.divInt l (l + r + st)), (1, Rat.divInt r (l + r + st))]) ∨ (0 < st ∧ pSteps l r st = [(-1, Rat.divInt l (l + r + st)), (1, Rat.divInt r (l + r + st)), (0, Rat.divInt st (l + r + st))]) := by
  have e1 : decide ((0 : Int) < l) = true := decide_eq_true (by omega)
  have e2 : decide ((0 : Int) < r) = true := decide_eq_true (by omega)
  unfold pSteps shs
  by_cases h : st = 0
  · refine .inl ⟨h, ?_⟩
    have e3 : decide ((0 : Int) < st) = false := decide_eq_false (by omega)
    rw [List.filter_cons, List.filter_cons, List.filter_cons, List.filter_nil]
    dsimp only
    rw [e1, e2, e3, if_pos rfl, if_pos rfl, if_neg Bool.false_ne_true]
    rfl
  · refine .inr ⟨by omega, ?_⟩
    have e3 : decide ((0 : Int) < st) = true := decide_eq_true (by omega)
    rw [List.filter_cons, List.filter_cons, List.filter_cons, List.filter_nil]
    dsimp only
    rw [e1, e2, e3, if_pos rfl, if_pos rfl, if_pos rfl]
    rfl
theorem three_one {l r st : Int} (hW : 0 < l + r + st) : Rat.divInt l (l + r + st) + Rat.divInt r (l + r + st) + Rat.divInt st (l + r + st) = 1 := by
  have hW0 : ((l + r + st : Int) : Rat) ≠ 0 := fun z => by have := Rat.intCast_eq_zero_iff.mp z; omega
  rw [Rat.divInt_eq_div, Rat.divInt_eq_div, Rat.divInt_eq_div, Rat.div_def, Rat.div_def, Rat.div_def, ← Rat.add_mul, ← Rat.add_mul, ← Rat.intCast_add, ← Rat.intCast_add, Rat.mul_inv_cancel _ hW0]
theorem zero_share {W : Int} : Rat.divInt 0 W = 0 := Rat.zero_divInt W
theorem pTr_ok {l r st : Int} (hl : 1 ≤ l) (hr : 1 ≤ r) (hs : 0 ≤ st) (n : Nat) : TrOk (l + r + st) (pTr l r st n) := by
  have hW : 0 < l + r + st := by omega
  have h3 := three_one hW
  have lv : ∀ s ∈ pSteps l r st, Lev (l + r + st) 1 s.2 := fun s hs' => by
    unfold pSteps at hs'
    obtain ⟨x, hx, rfl⟩ := List.mem_map.mp hs'
    exact Lev.of hW (Int.le_of_lt (of_decide_eq_true (List.mem_filter.mp hx).2))
  refine ⟨fun k s hs' => ?_, fun k => ?_⟩
  · unfold pTr at hs'
    split at hs'
    · obtain ⟨x, hx, rfl⟩ := List.mem_map.mp hs'
      exact lv x hx
    · exact (nomatch hs')
  · unfold pTr
    split
    · rcases pSteps_eq hl hr hs with ⟨e, h⟩ | ⟨e, h⟩
      · rw [h]
        show Rat.divInt l (l + r + st) * 1 + (Rat.divInt r (l + r + st) * 1 + 0) ≤ 1
        rw [show Rat.divInt st (l + r + st) = 0 from by rw [e]; exact zero_share] at h3
        grind
      · rw [h]
        show Rat.divInt l (l + r + st) * 1 + (Rat.divInt r (l + r + st) * 1 + (Rat.divInt st (l + r + st) * 1 + 0)) ≤ 1
        grind
    · show (0 : Rat) ≤ 1
      decide
theorem lTr_ok {l r st : Int} (hl : 1 ≤ l) (hr : 1 ≤ r) (hs : 0 ≤ st) (n : Nat) : TrOk (l + r + st) (lTr l r st n) := by
  have hW : 0 < l + r + st := by omega
  have h3 := three_one hW
  refine ⟨fun k s hs' => ?_, fun k => ?_⟩
  · unfold lTr at hs'
    split at hs'
    · obtain ⟨x, hx, rfl⟩ := List.mem_map.mp hs'
      obtain ⟨y, hy, rfl⟩ := List.mem_map.mp hx
      refine Lev.of hW ?_
      rcases List.mem_cons.mp hy with rfl | hy
      · show 0 ≤ l; omega
      · rcases List.mem_cons.mp hy with rfl | hy
        · show 0 ≤ r; omega
        · rw [List.mem_singleton.mp hy]; exact hs
    · exact (nomatch hs')
  · unfold lTr
    split
    · show Rat.divInt l (l + r + st) * 1 + (Rat.divInt r (l + r + st) * 1 + (Rat.divInt st (l + r + st) * 1 + 0)) ≤ 1
      grind
    · show (0 : Rat) ≤ 1
      decide
theorem pTr_len (l r st : Int) (n : Nat) (k : PK) : (pTr l r st n k).length ≤ 3 := by
  unfold pTr
  split
  · rw [List.length_map]
    unfold pSteps
    rw [List.length_map]
    exact List.length_filter_le _ _
  · exact Nat.zero_le _
theorem lTr_len (l r st : Int) (n : Nat) (k : LK) : (lTr l r st n k).length ≤ 3 := by
  unfold lTr
  split
  · exact Nat.le_refl _
  · exact Nat.zero_le _
theorem step_of {l r st : Int} {s : Int × Rat} (h : s ∈ pSteps l r st) : s.1 = -1 ∨ s.1 = 1 ∨ s.1 = 0 := by
  unfold pSteps at h
  obtain ⟨y, hy, rfl⟩ := List.mem_map.mp h
  have hy := (List.mem_filter.mp hy).1
  rcases List.mem_cons.mp hy with rfl | hy
  · exact .inl rfl
  · rcases List.mem_cons.mp hy with rfl | hy
    · exact .inr (.inl rfl)
    · rw [List.mem_singleton.mp hy]; exact .inr (.inr rfl)
theorem gIt_eq {l r st : Int} (hl : 1 ≤ l) (hr : 1 ≤ r) (hs : 0 ≤ st) {n : Nat} (n1 : 1 ≤ n) (n5 : n ≤ 5) : ∀ (t : Nat) (f : PK → Rat) (g : LK → Rat), (∀ k, okP n k → f k = g (phi n k)) → ∀ k, okP n k → gIt (pTr l r st n) t f k = gIt (lTr l r st n) t g (phi n k)
  | 0, f, g, h, k, hk => h k hk
  | t + 1, f, g, h, k, hk => by
    refine gIt_eq hl hr hs n1 n5 t _ _ (fun k hk => ?_) k hk
    obtain ⟨e1, -, e3⟩ := (phi_at n1 n5).2 k hk
    show wsum f (pTr l r st n k) = wsum g (lTr l r st n (phi n k))
    unfold pTr lTr
    rw [← e1]
    cases hlv : pLive n k with
    | false => rw [if_neg Bool.false_ne_true, if_neg Bool.false_ne_true]; rfl
    | true =>
      rw [if_pos rfl, if_pos rfl]
      have go : ∀ s, s = -1 ∨ s = 1 ∨ s = 0 → f (nextP k s) = g (nextL n (phi n k) s) := fun s hs' => by
        rw [← e3 hlv s hs']
        exact h _ (okP_next hk hlv hs')
      have g1 := go (-1) (.inl rfl)
      have g2 := go 1 (.inr (.inl rfl))
      have g3 := go 0 (.inr (.inr rfl))
      show _ = Rat.divInt l (l + r + st) * g (nextL n (phi n k) (-1)) + (Rat.divInt r (l + r + st) * g (nextL n (phi n k) 1) + (Rat.divInt st (l + r + st) * g (nextL n (phi n k) 0) + 0))
      rw [← g1, ← g2, ← g3]
      rcases pSteps_eq hl hr hs with ⟨e, hp⟩ | ⟨e, hp⟩
      · rw [hp, show Rat.divInt st (l + r + st) = 0 from by rw [e]; exact zero_share, Rat.zero_mul, Rat.add_zero]
        rfl
      · rw [hp]
        rfl
/-- the chances that all have had it behind just t throws -/
def endQ (l r st : Int) (n t : Nat) : Rat := (endL (pEnd n) (gRows (pTr l r st n) (0, 0, 0) t)).sum
def throwsQ (l r st : Int) (n m : Nat) : List Rat := (List.range m).map (endQ l r st n)
theorem okP0 {n : Nat} (h : 1 ≤ n) : okP n (0, 0, 0) := ⟨Int.le_refl _, Int.le_refl _, by show (0 : Int) - 0 ≤ _; omega, Int.le_refl _, Int.le_refl _⟩
theorem endQ_law {l r st : Int} (hl : 1 ≤ l) (hr : 1 ≤ r) (hs : 0 ≤ st) {n : Nat} (n1 : 1 ≤ n) (n5 : n ≤ 5) (t : Nat) : (endL (lEnd n) (gRows (lTr l r st n) (0, [0]) t)).sum = endQ l r st n t := by
  unfold endQ
  obtain ⟨e0, e1⟩ := phi_at n1 n5
  rw [endL_sum, endL_sum, gRows_wsum, gRows_wsum, ← e0]
  refine (gIt_eq hl hr hs n1 n5 t _ _ (fun k hk => ?_) _ (okP0 n1)).symm
  unfold indE
  rw [(e1 k hk).2.1]
/-- the law's keys -/
def okL (n : Nat) (k : LK) : Prop := ∃ k0, okP n k0 ∧ phi n k0 = k
theorem okL_next {n : Nat} (n1 : 1 ≤ n) (n5 : n ≤ 5) {k : LK} {s : Int} (h : okL n k) (hl : lLive n k = true) (hs : s = -1 ∨ s = 1 ∨ s = 0) : okL n (nextL n k s) := by
  obtain ⟨k0, h0, rfl⟩ := h
  obtain ⟨e1, -, e3⟩ := (phi_at n1 n5).2 k0 h0
  rw [← e1] at hl
  exact ⟨_, okP_next h0 hl hs, e3 hl s hs⟩
theorem okL_rows {l r st : Int} {n : Nat} (n1 : 1 ≤ n) (n5 : n ≤ 5) : ∀ t, ∀ x ∈ gRows (lTr l r st n) (0, [0]) t, okL n x.1 := by
  refine gRows_kall _ ⟨(0, 0, 0), okP0 n1, (phi_at n1 n5).1⟩ fun k hk s hs => ?_
  unfold lTr at hs
  split at hs
  · next hl =>
    obtain ⟨x, hx, rfl⟩ := List.mem_map.mp hs
    refine okL_next n1 n5 hk hl ?_
    obtain ⟨y, hy, rfl⟩ := List.mem_map.mp hx
    rcases List.mem_cons.mp hy with rfl | hy
    · exact .inl rfl
    · rcases List.mem_cons.mp hy with rfl | hy
      · exact .inr (.inl rfl)
      · rw [List.mem_singleton.mp hy]; exact .inr (.inr rfl)
  · exact (nomatch hs)
theorem okL_mem {n : Nat} {k : LK} (h : okL n k) : k.2.length ≤ n ∧ ∀ x ∈ k.2, 0 ≤ x ∧ x < n := by
  obtain ⟨k0, -, rfl⟩ := h
  refine ⟨Nat.le_trans (List.length_filter_le _ _) (by rw [List.length_map, List.length_range]; exact Nat.le_refl _), fun x hx => ?_⟩
  obtain ⟨y, hy, rfl⟩ := List.mem_map.mp (List.mem_filter.mp hx).1
  have := List.mem_range.mp hy
  exact ⟨Int.natCast_nonneg y, Int.ofNat_lt.mpr this⟩
theorem phi_ne_all : ((List.range 5).all fun n => (boxP (n + 1)).all fun k => !decide (k.2.1 - k.1 ≤ ((n + 1 : Nat) : Int) - 1) || !(phi (n + 1) k).2.isEmpty) = true := by decide +kernel
theorem okL_ne {n : Nat} (n1 : 1 ≤ n) (n5 : n ≤ 5) {k : LK} (h : okL n k) : k.2 ≠ [] := by
  obtain ⟨k0, hk, rfl⟩ := h
  have h := List.all_eq_true.mp phi_ne_all (n - 1) (List.mem_range.mpr (by omega))
  rw [show n - 1 + 1 = n by omega] at h
  have h3 := List.all_eq_true.mp h k0 (box_mem hk)
  rw [decide_eq_true hk.2.2.1, Bool.not_true, Bool.false_or] at h3
  intro z
  rw [z] at h3
  cases h3
/-! sorted lists -/
theorem sorted_eq : ∀ {a b : List Int}, a.Pairwise (· < ·) → b.Pairwise (· < ·) → (∀ x, x ∈ a ↔ x ∈ b) → a = b
  | [], [], _, _, _ => rfl
  | [], y :: b, _, _, h => nomatch (h y).mpr (.head _)
  | x :: a, [], _, _, h => nomatch (h x).mp (.head _)
  | x :: a, y :: b, ha, hb, h => by
    rw [List.pairwise_cons] at ha hb
    have exy : x = y := by
      rcases List.mem_cons.mp ((h x).mp (.head _)) with e | e
      · exact e
      · rcases List.mem_cons.mp ((h y).mpr (.head _)) with e2 | e2
        · exact e2.symm
        · have h1 := hb.1 x e
          have h2 := ha.1 y e2
          omega
    subst exy
    rw [sorted_eq ha.2 hb.2 fun z => ⟨fun hz => ?_, fun hz => ?_⟩]
    · rcases List.mem_cons.mp ((h z).mp (.tail _ hz)) with e | e
      · have := ha.1 z hz
        omega
      · exact e
    · rcases List.mem_cons.mp ((h z).mpr (.tail _ hz)) with e | e
      · have := hb.1 z hz
        omega
      · exact e
theorem sortL_sorted (n : Nat) (xs : List Int) : (sortL n xs).Pairwise (· < ·) := by
  unfold sortL
  refine List.Pairwise.filter _ ?_
  rw [List.pairwise_map]
  exact List.pairwise_lt_range.imp fun h => Int.ofNat_lt.mpr h
theorem sortL_mem {n : Nat} {xs : List Int} (h : ∀ x ∈ xs, 0 ≤ x ∧ x < n) (x : Int) : x ∈ sortL n xs ↔ x ∈ xs := by
  unfold sortL
  rw [List.mem_filter, decide_eq_true_iff]
  refine ⟨fun z => z.2, fun z => ⟨?_, z⟩⟩
  obtain ⟨h1, h2⟩ := h x z
  obtain ⟨y, rfl⟩ := Int.eq_ofNat_of_zero_le h1
  exact List.mem_map.mpr ⟨y, List.mem_range.mpr (by omega), rfl⟩
theorem sortL_eq {n : Nat} {xs out : List Int} (h : ∀ x ∈ xs, 0 ≤ x ∧ x < n) (ho : out.Pairwise (· < ·)) (hm : ∀ x, x ∈ out ↔ x ∈ xs) : out = sortL n xs :=
  sorted_eq ho (sortL_sorted n xs) fun x => (hm x).trans (sortL_mem h x).symm
end Fz
/-! rounds: where a row of words leads -/
namespace Fz
open PySem Rat
theorem phi_all6 : ((List.range 6).all fun n => phiChk (n + 1) && decide (phi (n + 1) (0, 0, 0) = (0, [0]))) = true := by decide +kernel
theorem phi_at6 {n : Nat} (n1 : 1 ≤ n) (n5 : n ≤ 6) : phi n (0, 0, 0) = (0, [0]) ∧ ∀ k, okP n k → pLive n k = lLive n (phi n k) ∧ pEnd n k = lEnd n (phi n k) ∧ (pLive n k = true → ∀ s, s = -1 ∨ s = 1 ∨ s = 0 → phi n (nextP k s) = nextL n (phi n k) s) := by
  have h := List.all_eq_true.mp phi_all6 (n - 1) (List.mem_range.mpr (by omega))
  rw [show n - 1 + 1 = n by omega] at h
  obtain ⟨h1, h2⟩ := Bool.and_eq_true_iff.mp h
  refine ⟨of_decide_eq_true h2, fun k hk => ?_⟩
  have h3 := List.all_eq_true.mp h1 k (box_mem hk)
  rw [decide_eq_true hk.2.2.1, Bool.not_true, Bool.false_or] at h3
  obtain ⟨a1, a2⟩ := Bool.and_eq_true_iff.mp h3
  obtain ⟨a2, a3⟩ := Bool.and_eq_true_iff.mp a2
  refine ⟨eq_of_beq a1, eq_of_beq a2, fun hl s hs => ?_⟩
  rw [hl, Bool.not_true, Bool.false_or] at a3
  refine of_decide_eq_true (List.all_eq_true.mp a3 s ?_)
  rcases hs with rfl | rfl | rfl
  · exact .head _
  · exact .tail _ (.head _)
  · exact .tail _ (.tail _ (.head _))
/-- the seats a round has had -/
theorem had_eq {n : Nat} (n1 : 1 ≤ n) {k : PK} (hk : okP n k) {out : List Int} (hp : out.Perm ((List.range (k.2.1 - k.1 + 1).toNat).map fun (j : Nat) => (k.1 + (j : Int)) % (n : Int))) (ho : out.Pairwise (· ≤ ·)) : out = (phi n k).2 := by
  obtain ⟨lo, hi, pl⟩ := k
  obtain ⟨h1, h2, h3, h4, h5⟩ := hk
  dsimp only at h1 h2 h3 h4 h5 hp
  have n0 : (0 : Int) < n := by omega
  have nd : out.Nodup := by
    refine hp.nodup_iff.mpr ?_
    unfold List.Nodup
    rw [List.pairwise_map]
    refine List.Pairwise.imp_of_mem (fun {i j} hi' hj' hij => ?_) List.pairwise_lt_range
    have a1 := List.mem_range.mp hi'
    have a2 := List.mem_range.mp hj'
    intro z
    have e1 : ((lo + (j : Int)) - (lo + (i : Int))) % (n : Int) = 0 := by rw [Int.sub_emod, z, Int.sub_self, Int.zero_emod]
    rw [show (lo + (j : Int)) - (lo + (i : Int)) = (j : Int) - i by omega, Int.emod_eq_of_lt (by omega) (by omega)] at e1
    omega
  have hlt : out.Pairwise (· < ·) := by
    refine (ho.and nd).imp fun {a b} h => ?_
    have := h.1
    have := h.2
    omega
  refine sorted_eq hlt ?_ fun x => ?_
  · show (((List.range n).map Int.ofNat).filter _).Pairwise (· < ·)
    refine List.Pairwise.filter _ ?_
    rw [List.pairwise_map]
    exact List.pairwise_lt_range.imp fun h => Int.ofNat_lt.mpr h
  · show x ∈ out ↔ x ∈ ((List.range n).map Int.ofNat).filter fun x => decide ((x - lo) % (n : Int) ≤ hi - lo)
    rw [hp.mem_iff, List.mem_map, List.mem_filter, decide_eq_true_iff, List.mem_map]
    refine ⟨fun ⟨j, hj, e⟩ => ?_, fun ⟨⟨y, hy, e⟩, hx⟩ => ?_⟩
    · have hj := List.mem_range.mp hj
      subst e
      have g0 : 0 ≤ (lo + (j : Int)) % (n : Int) := Int.emod_nonneg _ (by omega)
      have g1 : (lo + (j : Int)) % (n : Int) < n := Int.emod_lt_of_pos _ n0
      refine ⟨⟨((lo + (j : Int)) % (n : Int)).toNat, List.mem_range.mpr (by omega), by show (((_ : Int).toNat : Nat) : Int) = _; omega⟩, ?_⟩
      rw [Int.sub_emod, Int.emod_emod_of_dvd _ (Int.dvd_refl _), ← Int.sub_emod, show lo + (j : Int) - lo = j by omega, Int.emod_eq_of_lt (by omega) (by omega)]
      omega
    · have hy := List.mem_range.mp hy
      subst e
      have g0 : 0 ≤ ((y : Int) - lo) % (n : Int) := Int.emod_nonneg _ (by omega)
      have hx : ((y : Int) - lo) % (n : Int) ≤ hi - lo := hx
      refine ⟨(((y : Int) - lo) % (n : Int)).toNat, List.mem_range.mpr (by omega), ?_⟩
      rw [show (((((y : Int) - lo) % (n : Int)).toNat : Nat) : Int) = ((y : Int) - lo) % (n : Int) by omega, Int.add_emod, Int.emod_emod_of_dvd _ (Int.dvd_refl _), ← Int.add_emod, show lo + ((y : Int) - lo) = y by omega, Int.emod_eq_of_lt (by omega) (by omega)]
      rfl
/-! words -/
def W3 : List Str := ["left", "right", "stay"]
def stepW (w : Str) : Int := if w = "left" then -1 else if w = "right" then 1 else 0
def shW (l r st : Int) (w : Str) : Int := if w = "left" then l else if w = "right" then r else st
theorem stepW_mem (w : Str) : stepW w = -1 ∨ stepW w = 1 ∨ stepW w = 0 := by
  unfold stepW
  split
  · exact .inl rfl
  · split
    · exact .inr (.inl rfl)
    · exact .inr (.inr rfl)
abbrev Sta := PK × Rat
def nextS (l r st : Int) (x : Sta) (w : Str) : Sta := (nextP x.1 (stepW w), x.2 * divInt (shW l r st w) (l + r + st))
def stas (l r st : Int) (ws : List Str) : Sta := ws.foldl (nextS l r st) ((0, 0, 0), 1)
theorem stas_app {l r st : Int} {ws : List Str} {w : Str} : stas l r st (ws ++ [w]) = nextS l r st (stas l r st ws) w := by
  unfold stas
  rw [List.foldl_append]
  rfl
inductive Okw (l r st : Int) (n : Nat) : List Str → Prop
  | nil : Okw l r st n []
  | app {ws : List Str} {w : Str} : Okw l r st n ws → w ∈ W3 → 0 < shW l r st w → pLive n (stas l r st ws).1 = true → Okw l r st n (ws ++ [w])
theorem Okw.ok {l r st : Int} {n : Nat} (n1 : 1 ≤ n) {ws : List Str} (h : Okw l r st n ws) : okP n (stas l r st ws).1 := by
  induction h with
  | nil => exact okP0 n1
  | @app ws w h _ _ hl ih =>
    rw [stas_app]
    exact okP_next ih hl (stepW_mem w)
theorem shW_of {l r st : Int} (hl : 1 ≤ l ∧ l ≤ 9) (hr : 1 ≤ r ∧ r ≤ 9) (hs : 0 ≤ st ∧ st ≤ 9) (w : Str) : 0 ≤ shW l r st w ∧ shW l r st w ≤ 9 := by
  unfold shW
  split
  · omega
  · split <;> omega
theorem share_sz {l r st : Int} (hl : 1 ≤ l ∧ l ≤ 9) (hr : 1 ≤ r ∧ r ≤ 9) (hs : 0 ≤ st ∧ st ≤ 9) (w : Str) : QSz 8 (divInt (shW l r st w) (l + r + st)) := by
  have h := shW_of hl hr hs w
  exact QSz.ofDiv (by omega) (Sz.small 8 (by omega) (by omega)) (Sz.small 8 (by omega) (by omega))
theorem Okw.sz {l r st : Int} {n : Nat} (hl : 1 ≤ l ∧ l ≤ 9) (hr : 1 ≤ r ∧ r ≤ 9) (hs : 0 ≤ st ∧ st ≤ 9) {ws : List Str} (h : Okw l r st n ws) : QSz (8 * ws.length + 8) (stas l r st ws).2 := by
  induction h with
  | nil => exact QSz.one.mono (by decide)
  | @app ws w h _ _ _ ih =>
    rw [stas_app, List.length_append, List.length_singleton]
    exact ih.mul (share_sz hl hr hs w) (by omega)
theorem Okw.w3 {l r st : Int} {n : Nat} {ws : List Str} (h : Okw l r st n ws) : ∀ w ∈ ws, w ∈ W3 := by
  induction h with
  | nil => exact fun w z => (nomatch z)
  | @app ws w h hw _ _ ih =>
    intro x hx
    rcases List.mem_append.mp hx with z | z
    · exact ih x z
    · rw [List.mem_singleton.mp z]; exact hw
theorem Okw.take {l r st : Int} {n : Nat} {ws : List Str} (h : Okw l r st n ws) (j : Nat) : Okw l r st n (ws.take j) := by
  induction h with
  | nil => rw [List.take_nil]; exact .nil
  | @app ws w h hw h2 h3 ih =>
    by_cases hj : j ≤ ws.length
    · rw [List.take_append_of_le_length hj]; exact ih
    · rw [List.take_of_length_le (by rw [List.length_append, List.length_singleton]; omega)]
      exact .app h hw h2 h3
/-- a state for each row of words before -/
def pre {α : Type} (f : List Str → α) (ws : List Str) : List α := (List.range (ws.length + 1)).map fun j => f (ws.take j)
theorem pre_len {α : Type} {f : List Str → α} {ws : List Str} : (pre f ws).length = ws.length + 1 := by
  unfold pre
  rw [List.length_map, List.length_range]
theorem pre_get {α : Type} {f : List Str → α} {ws : List Str} {j : Nat} (h : j ≤ ws.length) : (pre f ws)[j]? = some (f (ws.take j)) := by
  unfold pre
  rw [List.getElem?_map, List.getElem?_range (by omega)]
  rfl
theorem pre_nil {α : Type} {f : List Str → α} : pre f [] = [f []] := rfl
theorem pre_app {α : Type} {f : List Str → α} {ws : List Str} {w : Str} : pre f (ws ++ [w]) = pre f ws ++ [f (ws ++ [w])] := by
  unfold pre
  rw [List.length_append, List.length_singleton, List.range_succ, List.map_append]
  congr 1
  · refine List.map_congr_left fun j hj => ?_
    have := List.mem_range.mp hj
    rw [List.take_append_of_le_length (by omega)]
  · show [f _] = _
    rw [List.take_of_length_le (by rw [List.length_append, List.length_singleton]; omega)]
theorem pre_cut {α : Type} {f : List Str → α} : ∀ {ws : List Str}, ws ≠ [] → (pre f ws).dropLast = pre f ws.dropLast := fun {ws} h => by
  obtain ⟨us, w, rfl⟩ : ∃ us w, ws = us ++ [w] := ⟨_, _, (List.dropLast_concat_getLast h).symm⟩
  rw [pre_app, List.dropLast_concat, List.dropLast_concat]
theorem pre_last {α : Type} {f : List Str → α} {ws : List Str} : ∃ xs, pre f ws = xs ++ [f ws] := by
  unfold pre
  rw [List.range_succ, List.map_append]
  refine ⟨(List.range ws.length).map fun j => f (ws.take j), ?_⟩
  show _ ++ [f _] = _
  rw [List.take_length]
theorem Okw.cut {l r st : Int} {n : Nat} {ws : List Str} (h : Okw l r st n ws) : Okw l r st n ws.dropLast := by
  rw [List.dropLast_eq_take]
  exact h.take _
def staD (x : Sta) : D := .tup [.int x.1.2.2, .int x.1.1, .int x.1.2.1, fr x.2]
/-- the law's state -/
def lawS (l r st : Int) (n : Nat) (ws : List Str) : D := .tup [.int (phi n (stas l r st ws).1).1, .tup ((phi n (stas l r st ws).1).2.map .int), fr (stas l r st ws).2, .tup (ws.map .str)]
end Fz
/-! items() of dicts keyed by tuples; targets within targets; sorted(set(..)); a third new list -/
namespace Fz
open PySem PySem.Spec PyProof.Rows L2
/-! ### items() -/
def NEntI (o : Obj) (ps : List (V × V)) : Prop := o.ExactDict ∧ ∃ (es : Array DictEntry) (ep : Nat), o.data = .dict es ep ∧ es.size = ps.length ∧ ∀ (i : Nat) (p : V × V), ps[i]? = some p → ∃ en, es[i]? = some en ∧ RelV p.1 en.key ∧ RelV p.2 en.val
theorem NdAt.entI {w : World} {b : Addr} {o : Obj} {kvs : List (NestedKey × Addr × V)} (h : NdAt w b o kvs) : NEntI o (kvs.map fun p => (V.ref p.2.1, p.2.2)) := by
  obtain ⟨z, hs, ys, es, ep, pr, hx, hd, he, nd⟩ := h
  refine ⟨hx, es, ep, hd, ?_, fun i x hi => ?_⟩
  · rw [← Array.length_toList, he, List.length_map, List.length_map]
    exact (Paired.length pr).symm
  · rw [List.getElem?_map] at hi
    obtain ⟨p, hp, rfl⟩ := Option.map_eq_some_iff.mp hi
    obtain ⟨q, hq, _, e2, e3⟩ := paired_get pr hp
    refine ⟨_, by rw [← Array.getElem?_toList, he, List.getElem?_map, hq]; rfl, ?_, e3⟩
    show Value.ref q.2.1 = Value.ref p.2.1
    rw [e2]
def ItNi (a : Addr) (o : Obj) (ps : List (V × V)) : It := ⟨fun i H => (∃ b, H a = some (FxO b o)) ∧ i < ps.length, fun i H x H' => ∃ T p, ps[i]? = some p ∧ x = .ref T ∧ H T = none ∧ H' = upd H T (.tup [p.1, p.2]), fun i H => (∃ b, H a = some (FxO b o)) ∧ ps.length ≤ i⟩
theorem turn_ndi {P : Program} {w : World} {K : PySem.W.Frag} {elts : List Expr} {kk : Nat} {tpos : Pos} {a : Addr} {o : Obj} {ps : List (V × V)} {es : Array DictEntry} {ep : Nat} (it : Addr) (hx : o.ExactDict) (hod : o.data = .dict es ep) (hsz : es.size = ps.length) (hen : ∀ (i : Nat) (p : V × V), ps[i]? = some p → ∃ en, es[i]? = some en ∧ RelV p.1 en.key ∧ RelV p.2 en.val) :
    Turn P w K (.Tuple elts kk tpos) (ItNi a o ps) [it] it (fun i h => ∃ ok ov, IsItemIter h it a i es.size ep ok ov) where
  mem := by simp
  obj := fun i h st b hb => by
    have e : b = it := by simpa using hb
    subst e
    obtain ⟨ok, ov, e⟩ := st
    exact ⟨_, e, fun v z => nomatch z⟩
  keep := fun i h h' st k => let ⟨ok, ov, e⟩ := st; ⟨ok, ov, k it (by simp) _ e⟩
  item := by
    intro X hP hw hK hc i pins s σ H E I hf st hg
    subst hP hw hK
    obtain ⟨⟨b', hd⟩, hi⟩ := hg
    obtain ⟨f0, f1, f2, f3, f4, f5⟩ := hf it (by simp)
    obtain ⟨_, hgd⟩ := inv_fx I hd
    obtain ⟨p, hp⟩ : ∃ p, ps[i]? = some p := ⟨ps[i], List.getElem?_eq_getElem hi⟩
    obtain ⟨en, he, r1, r2⟩ := hen i p hp
    obtain ⟨ok, ov, hit⟩ := st
    have hlt : it < s.heap.objs.size := Heap.lt_size hit
    have hi2 : i < es.size := by omega
    have een : es[i] = en := by
      have := Array.getElem?_eq_getElem hi2
      rw [he] at this
      exact (Option.some.inj this).symm
    refine PySem.wpAny_pyNext_items_item_raw hit ⟨o, hgd, hx, hod⟩ hi2 fun h' ho hT hz hk => ?_
    refine ⟨_, rfl, wpAny_letOwnedTupleGo_items (s := { s with heap := h' }) ho fun h'' he' sb => ?_⟩
    have hT2 : h''.get? s.heap.objs.size = some { cls := .type "tuple", data := .seq #[en.key, en.val] } := by
      rw [← een]
      exact (sb.2 _ (Nat.ne_of_gt hlt)).trans hT
    have new : ObjOk X.prog X.w (upd H s.heap.objs.size (.tup [p.1, p.2])) h'' s.heap.objs.size (.tup [p.1, p.2]) :=
      ⟨by show 2 ≤ sizeLine; decide, [en.key, en.val], .cons r1 (.cons r2 .nil), ⟨_, hT2, rfl, _, rfl⟩⟩
    have I1 : Inv X pins σ (upd H s.heap.objs.size (.tup [p.1, p.2])) { s with heap := h'' } :=
      I.turnedNew (t' := s.toks) (ch := [it]) (fun b ob hb e => (sb.2 b (by simpa using hb)).trans (hk b ob (by simpa using hb) e)) hf (Nat.le_refl _) new
    refine ⟨.ref s.heap.objs.size, _, I1, rfl, ⟨_, p, hp, rfl, I.hok.fresh (Nat.le_refl _), rfl⟩, ⟨_, _, he'⟩, fun b hb => ?_⟩
    have e : b = it := by simpa using hb
    rw [e, upd_ne (Nat.ne_of_lt hlt)]
    exact (hf it (by simp)).1
  done := by
    intro X hP hw hK hc i pins s σ H E I hf st hg
    subst hP hw hK
    obtain ⟨⟨b', hd⟩, hi⟩ := hg
    obtain ⟨f0, f1, f2, f3, f4, f5⟩ := hf it (by simp)
    obtain ⟨_, hgd⟩ := inv_fx I hd
    obtain ⟨ok, ov, hit⟩ := st
    exact PySem.wpAny_pyNext_items_end_raw (I.ok.hd hc) hit ⟨o, hgd, hx, hod⟩ (by omega) fun h' eb => ⟨rfl, I.turned (t' := s.toks) (fun b o hb e => eb b o hb e) f0 f1 f3 f4 f5⟩
  self := fun A i s Q E st h => let ⟨_, _, e⟩ := st; PySem.W.kcp_self e h
def iNdi (te : TE) : TI := fun σ H R => te σ H fun x H1 => ∃ a b o ps, x = .ref a ∧ H1 a = some (FxO b o) ∧ (b == sysModules) = false ∧ NEntI o ps ∧ R (ItNi a o ps) H1
section
variable {X : Cx} {e : Expr} {td : TE} {apos cpos tpos : Pos} {elts : List Expr} {kk : Nat}
theorem pi_ndi (he : PE X e td) (hbase : attributeBase e "items" X.env (eval e X.env) = eval e X.env := by rfl) (hline : (apos.endLine == cpos.line) = true := by rfl) : PI X (.Tuple elts kk tpos) (.Call (.Attribute e "items" apos) [] [] cpos) (iNdi td) := by
  refine ⟨fun pins s σ H R I h => ?_⟩
  refine wpAny_Call_method (T := "dict") (id := "dict.items") hbase rfl hline PySem.F.plainAttrs_dict PySem.F.slot_dict_items PySem.F.type_dict_items (thn (he.run pins s σ H _ I h) fun u s1 ⟨x, H1, I1, rx, a, b, o, ps, ex, hd, hs, ⟨hx, es, ep, hod, hsz, hen⟩, q⟩ => ?_)
  subst ex
  obtain rfl : u = Value.ref a := rx
  obtain ⟨eb, hgd⟩ := inv_fx I1 hd
  subst eb
  refine ⟨⟨o, hgd, hx.1⟩, fun c q => by cases q; exact ⟨o, hgd, hx.2.1⟩, ?_⟩
  have I2 : Inv X pins σ H1 { s1 with heap := s1.heap.push { cls := .type "dict_items", data := .fields #[.ref b] } } := I1.kept (t' := s1.toks) fun b ob q => Heap.get?_push_of_some _ q
  have fin : wpAny (model X.prog X.w) X.A (pyIter (.ref s1.heap.objs.size)) (PIE X pins σ (.Tuple elts kk tpos) R) X.xe { s1 with heap := s1.heap.push { cls := .type "dict_items", data := .fields #[.ref b] } } := by
    refine PySem.wpAny_pyIter_items_raw (d := b) ⟨_, Heap.get?_push_size _ rfl, rfl, rfl⟩ ⟨o, Heap.get?_push_of_some _ hgd, hx, hod⟩ (pi_one (tk := s1.toks) I2 _ (turn_ndi _ hx hod hsz hen) ⟨.none, .none, ?_⟩ q)
    exact Heap.get?_push_size _ rfl
  show wpAny _ _ (callWith cpos (.builtin "dict.items") [.ref b] [] []) _ X.xe s1
  exact method_meetsIn PySem.F.slot_dict_items PySem.F.entry_dict_items rfl (PySem.evalArgs_none ⟨rfl, ⟨o, hgd, hx.1⟩, PySem.F.args_dict_items_1 _, _, PySem.meets_dict_items_raw b hs, ⟨es, ep, o, hgd, hx, hod⟩, fin⟩)
end
theorem for_ndi {a : Addr} {o : Obj} {ps : List (V × V)} {g : TG} {tb : TS} {D : Ends} {σ : L2.St} {H : Hp} (Pv : Nat → L2.St → Hp → Prop) (h0 : Pv 0 σ H) (hl : ∀ i σ H, i ≤ ps.length → Pv i σ H → ∃ b, H a = some (FxO b o))
    (hs : ∀ i p T σ H, ps[i]? = some p → Pv i σ H → H T = none → g (.ref T) σ (upd H T (.tup [p.1, p.2])) fun σ2 H2 => tb { D with nx := Pv (i + 1), ct := Pv (i + 1), bk := D.nx } σ2 H2) (hd : ∀ σ H, Pv ps.length σ H → D.nx σ H) :
    ∃ W : Nat → Nat → L2.St → Hp → Prop, (∃ m, W 0 m σ H) ∧ ∀ i m σ H, W i m σ H →
      ((ItNi a o ps).stop i H ∧ D.nx σ H) ∨ ((ItNi a o ps).go i H ∧ ∃ N : L2.St → Hp → Prop, (∀ σ' H', N σ' H' → ∃ m', m' < m ∧ W (i + 1) m' σ' H') ∧ ∀ x H', (ItNi a o ps).yld i H x H' → g x σ H' fun σ2 H2 => tb { D with nx := N, ct := N, bk := D.nx } σ2 H2) := by
  refine ⟨fun i m σ H => m = ps.length - i ∧ i ≤ ps.length ∧ Pv i σ H, ⟨ps.length, by simp, Nat.zero_le _, h0⟩, ?_⟩
  rintro i m σ H ⟨rfl, hi, p⟩
  have q := hl i σ H hi p
  by_cases hlt : i < ps.length
  · refine .inr ⟨⟨q, hlt⟩, Pv (i + 1), fun σ' H' p' => ⟨ps.length - (i + 1), by omega, rfl, hlt, p'⟩, fun x H' y => ?_⟩
    obtain ⟨T, pp, hp, rfl, hT, rfl⟩ := y
    exact hs i pp T σ H hp p hT
  · have e : i = ps.length := by omega
    subst e
    exact .inl ⟨⟨q, Nat.le_refl _⟩, hd σ H p⟩
theorem lc_ndi {a : Addr} {o : Obj} {ps : List (V × V)} {g : TG} {tt : TT} {te : TE} {vs : List Nat} {σ : L2.St} {H1 : Hp} {D : Addr} {Qd : Hp → Prop} (Pv : Nat → Hp → Prop) (h0 : Pv 0 (upd H1 D (.lst []))) (hl : ∀ i H, i ≤ ps.length → Pv i H → ∃ b, H a = some (FxO b o))
    (hs : ∀ i p T H, ps[i]? = some p → Pv i H → H T = none → g (.ref T) (wipe σ vs) (upd H T (.tup [p.1, p.2])) fun σ2 H2 => wipe σ2 vs = wipe σ vs ∧ tt σ2 H2 fun b H3 =>
      if b = true then te σ2 H3 fun y H4 => ∃ acc, H4 D = some (.lst acc) ∧ acc.length < sizeLine ∧ Pv (i + 1) (upd H4 D (.lst (acc ++ [y]))) else Pv (i + 1) H3) (hd : ∀ H, Pv ps.length H → Qd H) :
    ∃ W : Nat → Nat → Hp → Prop, (∃ m, W 0 m (upd H1 D (.lst []))) ∧ ∀ i m H, W i m H →
      ((ItNi a o ps).stop i H ∧ Qd H) ∨ ((ItNi a o ps).go i H ∧ ∃ Nx : Hp → Prop, (∀ H', Nx H' → ∃ m', m' < m ∧ W (i + 1) m' H') ∧ ∀ x H', (ItNi a o ps).yld i H x H' → g x (wipe σ vs) H' fun σ2 H2 => wipe σ2 vs = wipe σ vs ∧ tt σ2 H2 fun b H3 =>
        if b = true then te σ2 H3 fun y H4 => ∃ acc, H4 D = some (.lst acc) ∧ acc.length < sizeLine ∧ Nx (upd H4 D (.lst (acc ++ [y]))) else Nx H3) := by
  refine ⟨fun i m H => m = ps.length - i ∧ i ≤ ps.length ∧ Pv i H, ⟨ps.length, by simp, Nat.zero_le _, h0⟩, ?_⟩
  rintro i m H ⟨rfl, hi, p⟩
  have q := hl i H hi p
  by_cases hlt : i < ps.length
  · refine .inr ⟨⟨q, hlt⟩, Pv (i + 1), fun H' p' => ⟨ps.length - (i + 1), by omega, rfl, hlt, p'⟩, fun x H' y => ?_⟩
    obtain ⟨T, pp, hp, rfl, hT, rfl⟩ := y
    exact hs i pp T H hp p hT
  · have e : i = ps.length := by omega
    subst e
    exact .inl ⟨⟨q, Nat.le_refl _⟩, hd H p⟩
/-! ### targets within targets -/
def putTwo (p1 p2 : List En → D → List En → Prop) : List En → D → List En → Prop := fun ρ d ρ' => ∃ x y ρ1, d = .tup [x, y] ∧ p1 ρ x ρ1 ∧ p2 ρ1 y ρ'
theorem td_two {K : PySem.W.Frag} {g1 g2 : TG} {p1 p2 : List En → D → List En → Prop} {is1 is2 : List Nat} (t1 : TgD K g1 p1 is1) (t2 : TgD K g2 p2 is2) : TgD K (gTup K 2 (gCons g1 (gCons g2 gNil))) (putTwo p1 p2) (is1 ++ is2) := ⟨fun {B ρ ρ' d σ H G v Q} hK e s r q => by
  obtain ⟨x, y, ρ1, rfl, h1, h2⟩ := e
  obtain ⟨a, xs, rfl, hx, ra⟩ := r.tupI
  obtain ⟨v1, v2, rfl, r1, r2⟩ := repAll2 ra
  refine ⟨a, [v1, v2], rfl, same_seqT s.gr.s (hK ▸ hx), rfl, v1, [v2], rfl, ?_⟩
  refine t1.run hK h1 s r1 fun σ1 s1 w1 => ⟨v2, [], rfl, ?_⟩
  exact t2.run hK h2 s1 r2 fun σ2 s2 w2 => ⟨rfl, q σ2 s2 fun vs h => by rw [w2 vs fun j hj => h j (List.mem_append_right _ hj), w1 vs fun j hj => h j (List.mem_append_left _ hj)]⟩⟩
section
variable {B : Bx} {ρ : List En} {a b c e elt : Expr} {ifs : List Expr} {k : D → Prop} {x y z : Str} {pos p p' apos cpos tpos : Pos} {rest body : List Stmt} {D0 : Ed} {scope : Scope} {own : List (Str × Nat)} {put : List En → D → List En → Prop} {is : List Nat} {g : TG} {elts : List Expr} {kk : Nat}
/-- the pairs, as data -/
def pairsD (ks ds : List D) : List D := (ks.zip ds).map fun p => D.tup [p.1, p.2]
theorem zip_map2 {α β γ : Type} (f : α → β) (g : α → γ) : ∀ l : List α, (l.map f).zip (l.map g) = l.map fun x => (f x, g x)
  | [] => rfl
  | a :: l => by rw [List.map_cons, List.map_cons, List.zip_cons_cons, zip_map2 f g l]; rfl
theorem ndlen {K : PySem.W.Frag} {S : Addr} {G : Hp} {kvs : List (NestedKey × Addr × V)} {ks ds : List D} (ra : RepAll K S G (kvs.map fun p => V.ref p.2.1) ks) (rx : RepAll K S G (kvs.map fun p => p.2.2) ds) : ks.length = ds.length := by
  have h1 := ra.length
  have h2 := rx.length
  rw [List.length_map] at h1 h2
  omega
/-- for (..) in a dict's items() -/
theorem s_forNI (g : TG) (put : List En → D → List En → Prop) (is : List Nat) (td : TgD B.X.K g put is) (hg : PG B.X (.Tuple elts kk tpos) g) (h : Tk B ρ e (kNd B.X.w fun ks ds => LoopG B ρ put body rest D0 (pairsD ks ds))) (po : PassesOwn (model B.X.prog B.X.w) B.X.A B.X.env B.X.xe) (hc : B.X.calm = true)
    (hbase : attributeBase e "items" B.X.env (eval e B.X.env) = eval e B.X.env := by rfl) (hline : (apos.endLine == cpos.line) = true := by rfl)
    (hfs : ∀ v, foldedSetIterable (.Call (.Attribute e "items" apos) [] [] cpos) B.X.env v = pure v := by intro _; rfl) : Tss B ρ (.For (.Tuple elts kk tpos) (.Call (.Attribute e "items" apos) [] [] cpos) body [] pos :: rest) D0 := Tss.of fun kp σ H G s gk =>
  ⟨_, ps_for po hc (pi_ndi pe_W hbase hline) hg pss_W hfs, h.te s fun v d G1 H1 g1 i1 r1 h1 => by
    obtain ⟨ks, ds, rfl, J, j0, jb, jd⟩ := h1
    obtain ⟨a, b, o, kvs, rfl, ha, nd, e1, ht, ra, rx⟩ := r1.ndcI
    have s1 := s.step g1 i1
    have hl := ndlen ra rx
    have hkl : kvs.length = ks.length := by have := ra.length; rwa [List.length_map] at this
    refine ⟨a, b, o, _, rfl, s1.gr.s _ _ ha, nd.2.1, nd.entI, for_ndi (a := a) (o := o) (ps := kvs.map fun p => (V.ref p.2.1, p.2.2)) (fun j σ H => ∃ ρ' G, J j ρ' ∧ StOk B ρ' σ H G ∧ Same G1 G) ⟨ρ, G1, j0, s1, .refl _⟩ (fun j σ H _ ⟨ρ', G, _, s', g'⟩ => ⟨b, s'.gr.s _ _ (g' _ _ ha)⟩)
      (fun j p T σ H hj ⟨ρ', G, hJ, s', g'⟩ hT => ?_) (fun σ H ⟨ρ', G, hJ, s', g'⟩ => ?_)⟩
    · rw [List.getElem?_map] at hj
      obtain ⟨kv, hkv, rfl⟩ := Option.map_eq_some_iff.mp hj
      obtain ⟨d1, hd1, rd1⟩ := ra.getV (i := j) (v := V.ref kv.2.1) (by rw [List.getElem?_map, hkv]; rfl)
      obtain ⟨d2, hd2, rd2⟩ := rx.getV (i := j) (v := kv.2.2) (by rw [List.getElem?_map, hkv]; rfl)
      have hd : (pairsD ks ds)[j]? = some (.tup [d1, d2]) := by
        unfold pairsD
        rw [List.getElem?_map, (List.getElem?_zip_eq_some (z := (d1, d2))).mpr ⟨hd1, hd2⟩]
        rfl
      obtain ⟨ρ'', hp, hb⟩ := jb j _ ρ' hd hJ
      obtain ⟨g0, i0⟩ := (Gr.new (o := .tup [V.ref kv.2.1, kv.2.2]) s'.gr.s hT).up s'.inv
      have s2 := s'.step g0 i0
      have gg := g'.trans g0.g
      have rd : Rep B.X.K B.S (upd G T (.tup [V.ref kv.2.1, kv.2.2])) (.ref T) (.tup [d1, d2]) := .tup (xs := [V.ref kv.2.1, kv.2.2]) (SqT.of upd_same) (.cons (rd1.mono gg) (.cons (rd2.mono gg) .nil))
      exact td.run rfl hp s2 rd fun σ' s'' _ => tWS_mono (hb G1 σ' _ _ s'' gg) (fun _ _ q => q) (fun _ _ q => q) (fun _ _ q => q.elim) (fun _ _ q => q.elim)
    · have e3 : (pairsD ks ds).length = (kvs.map fun p => (V.ref p.2.1, p.2.2)).length := by
        unfold pairsD
        rw [List.length_map, List.length_zip, hl, Nat.min_self, List.length_map, ← hl, hkl]
      rw [← e3] at hJ
      exact jd ρ' hJ kp σ H G s' ((gk.trans g1.g).trans g')⟩
/-- a comprehension over a dict's items() -/
theorem lci_ni (td : TgD B.X.K g put is) (hi : ∀ i ∈ is, i ∈ own.map (·.2))
    (h : Tk B ρ e (kNd B.X.w fun ks ds => (pairsD ks ds).length < sizeLine ∧ ∃ rs, All2 (LcTurn B scope (wipeR ρ (own.map (·.2))) put ifs elt) (pairsD ks ds) rs ∧ k (.lst (rs.filterMap id))))
    (hbase : attributeBase e "items" B.X.env (eval e B.X.env) = eval e B.X.env := by rfl) (hline : (apos.endLine == cpos.line) = true := by rfl) : LcI B ρ (.Tuple elts kk tpos) (.Call (.Attribute e "items" apos) [] [] cpos) ifs elt scope own g k :=
  ⟨_, pi_ndi pe_W hbase hline, fun σ H G s Q qf => h.te s fun v d G1 H1 g1 i1 r1 h1 => by
    obtain ⟨ks, ds, rfl, hz, rs, h2, hk⟩ := h1
    obtain ⟨a, b, o, kvs, rfl, ha, nd, e1, ht, ra, rx⟩ := r1.ndcI
    have s1 := s.step g1 i1
    have hl := ndlen ra rx
    refine ⟨a, b, o, _, rfl, s1.gr.s _ _ ha, nd.2.1, nd.entI, fun p hp => ?_⟩
    obtain ⟨Pv, p0, pS, pt, pd⟩ := lcZ_inv s1 ra rx hl rfl hp hz h2 hk td hi
    refine lc_ndi (a := a) (o := o) (ps := kvs.map fun p => (V.ref p.2.1, p.2.2)) (g := g) (tt := tIfs B.X scope ifs) (te := tWB B.X scope elt) (vs := own.map (·.2)) (σ := σ) Pv p0 (fun i H _ q => ?_) (fun i p T H hx q hT => ?_) fun H q => ?_
    · obtain ⟨G', g'⟩ := pS i H q
      exact ⟨b, g'.s _ _ (g'.g _ _ ha)⟩
    · rw [List.getElem?_map] at hx
      obtain ⟨kv, hkv, rfl⟩ := Option.map_eq_some_iff.mp hx
      exact pt i _ _ T H (by rw [List.getElem?_map, hkv]; rfl) (by rw [List.getElem?_map, hkv]; rfl) q hT
    · rw [List.length_map] at q pd
      exact qf _ _ (Kd.back i1 g1 (pd H q))⟩
/-- (x, y, z) = (e1, e2, [..]) by a tuple: z's new list the def's own -/
theorem s_tup3L (i j l : Nat) {es : List Expr} {lp px py pz : Pos} {kt kk pt2 pt} (h : Tk B ρ a fun d => Tk B ρ b fun d2 => Ta B ρ es fun ds => ds.length ≤ sizeLine ∧ Tss B (((ρ.set i (.val d)).set j (.val d2)).set l (.own (.lst ds))) rest D0) (hg : PGs B.X [.Name x px, .Name y py, .Name z pz] (gNames [i, j, l])) (hc : B.X.calm = true)
    (hn : (assignEach [.Name x px, .Name y py, .Name z pz] B.X.env).length = 3 := by rfl) (hst : (assignEach [.Name x px, .Name y py, .Name z pz] B.X.env).findIdx? (·.1) = none := by rfl)
    (hs : swapsWithSole [.Tuple [.Name x px, .Name y py, .Name z pz] kt pt] (.Tuple [a, b, .List es lp] kk pt2) pos.line B.X.env = pure false := by rfl) (hw : swappedStores [.Tuple [.Name x px, .Name y py, .Name z pz] kt pt] (.Tuple [a, b, .List es lp] kk pt2) B.X.env = pure none := by rfl)
    (h1 : (assignEach [.Tuple [.Name x px, .Name y py, .Name z pz] kt pt] B.X.env).map (·.2) = [assign (.Tuple [.Name x px, .Name y py, .Name z pz] kt pt) B.X.env] := by rfl)
    (he : starEach [a, b, .List es lp] B.X.env = (false, eval a B.X.env) :: starEach [b, .List es lp] B.X.env := by rfl) (he2 : starEach [b, .List es lp] B.X.env = (false, eval b B.X.env) :: starEach [.List es lp] B.X.env := by rfl) (he3 : starEach [.List es lp] B.X.env = (false, eval (.List es lp) B.X.env) :: starEach [] B.X.env := by rfl) :
    Tss B ρ (.Assign [.Tuple [.Name x px, .Name y py, .Name z pz] kt pt] (.Tuple [a, b, .List es lp] kk pt2) pos :: rest) D0 := Tss.of fun kp σ H G s gk =>
  ⟨_, ps_asg (pe_tup (pa_cons pe_W (pa_cons pe_W (pa_cons (pe_lst pa_W) pa_nil he3) he2) he)) (pg_tup (n := 3) hc hg hn hst) hs hw h1, h.te s fun v1 d1 G1 H1 g1 i1 r1 q1 => q1.te (s.step g1 i1) fun v2 d2 G2 H2 g2 i2 r2 q2 => q2.ta ((s.step g1 i1).step g2 i2) fun vs ds G3 H3 g3 i3 r3 q3 => by
    refine ⟨by rw [r3.length]; exact q3.1, fun q n => ?_⟩
    have s3 := ((s.step g1 i1).step g2 i2).step g3 i3
    obtain ⟨gb, ib⟩ := s3.beside (o := .lst vs) n
    have s4 := s3.step gb ib
    have gq : G3 q = none := s3.gr.s.free n
    refine ⟨by show 3 ≤ sizeLine; decide, fun T hT => ?_⟩
    obtain ⟨gc, ic⟩ := s4.beside (o := .tup [v1, v2, .ref q]) hT
    have s5 := s4.step gc ic
    have hqT : q ≠ T := fun z => by
      rw [← z, upd_same] at hT
      cases hT
    refine ⟨T, [v1, v2, .ref q], rfl, SqT.of upd_same, rfl, v1, [v2, .ref q], rfl, v2, [.ref q], rfl, .ref q, [], rfl, rfl, ?_⟩
    have s6 := (s5.put (i := i) ((r1.mono g2.g).mono g3.g)).put (i := j) (r2.mono g3.g)
    have s3' := (s3.put (i := i) ((r1.mono g2.g).mono g3.g)).put (i := j) (r2.mono g3.g)
    exact q3.2 kp _ _ G3 (s3'.putAt (i := l) n s6 (by rw [upd_ne hqT]; exact upd_same) gq (.lst r3)) (((gk.trans g1.g).trans g2.g).trans g3.g)⟩
end
/-! ### sorted(set(t)) of a tuple of ints -/
def rSetTI (K : PySem.W.Frag) (w : World) : List V → Hp → VK → Prop := fun vs H Q => ∃ (l : Addr) (ns : List Int), vs = [V.ref l] ∧ SqT K H l (ns.map V.int) ∧ ns.length ≤ 1000 ∧ ∀ p c, c ≤ ns.length → H p = none → Q (.ref p) (upd H p (SetO w p (fun j => decide (j ∈ ns)) c))
theorem cr_setTI {X : Cx} (hc : X.calm = true) : CallR X (.type "set") (rSetTI X.K X.w) := by
  intro pins s σ H vs us Q I r h
  obtain ⟨l, ns, rfl, hq, hl, q⟩ := h
  rw [Vals.ref1 r]
  obtain ⟨its, rv, pt, hz⟩ := I.tuple hq
  have hi : IntsAre its.toArray.toList ns := ints_of_vals rv
  refine call_set_tupI ns (I.ok.hd hc) (show s.heap.IsTuple l its.toArray from pt) hi (by unfold scanBound; omega) fun h' tk c R1 hcn k => ?_
  exact ⟨.ref s.heap.objs.size, _, I.laid (t' := tk) k (Nat.le_refl _) (setO_new R1), rfl, q _ c hcn (I.hok.fresh (Nat.le_refl _))⟩
section
variable {B : Bx} {ρ : List En} {a : Expr} {k : D → Prop} {pos p p2 q2 : Pos}
def kTI (f : List Int → Prop) : D → Prop := fun d => ∃ ns : List Int, d = .tup (ns.map .int) ∧ f ns
theorem tk_sortSet (hc : B.X.calm = true) (hm : B.X.mg "sorted" = none) (hm2 : B.X.mg "set" = none) (h : Tk B ρ a (kTI fun ns => ns.length < 64 ∧ ∀ out : List Int, out.Pairwise (· < ·) → (∀ x, x ∈ out ↔ x ∈ ns) → k (.lst (out.map .int)))) (hg : Gl B.X "sorted" := by rfl) (hg2 : Gl B.X "set" := by rfl)
    (he : starEach [a] B.X.env = (false, eval a B.X.env) :: starEach [] B.X.env := by rfl) (he2 : starEach [.Call (.Name "set" p2) [a] [] q2] B.X.env = (false, eval (.Call (.Name "set" p2) [a] [] q2) B.X.env) :: starEach [] B.X.env := by rfl)
    (hpl : (backTo q2 (starEach [] B.X.env)).any (·.1) = false := by rfl) (hpl2 : (backTo pos (starEach [] B.X.env)).any (·.1) = false := by rfl) :
    Tk B ρ (.Call (.Name "sorted" p) [.Call (.Name "set" p2) [a] [] q2] [] pos) k := Tk.of fun σ H G s =>
  ⟨_, pe_callB (CallR.wk (cr_sortedSet hc)) hg hm PyProof.Rows.boot_sorted (pa_cons (pe_callTy (CallR.wk (cr_setTI hc)) hg2 hm2 PyProof.Rows.boot_set (pa_cons pe_W pa_nil he) (by decide) (by decide) he hpl) pa_nil he2) (by decide) (by decide) he2 hpl2, h.te s fun v d G1 H1 g1 i1 r1 h1 => by
    obtain ⟨ns, rfl, hl, hk⟩ := h1
    obtain ⟨l, xs, rfl, hx, ra⟩ := r1.tupI
    have e := ra.mapInt
    subst e
    have s1 := s.step g1 i1
    refine ⟨_, ⟨l, ns, rfl, same_seqT s1.gr.s hx, by omega, fun q c hcn hq => ?_⟩, fun _ _ z => z⟩
    obtain ⟨gb, ib⟩ := s1.beside (o := SetO B.X.w q (fun j => decide (j ∈ ns)) c) hq
    have s2 := s1.step gb ib
    refine ⟨_, ⟨q, fun j => decide (j ∈ ns), c, rfl, upd_same, by omega, fun out r hp hm3 hlen hr => ?_⟩, fun _ _ z => z⟩
    have ro : RepAll B.X.K B.S G1 (out.map V.int) (out.map D.int) := by
      clear hp hm3 hlen
      induction out with
      | nil => exact .nil
      | cons n ns ih => exact .cons (.int n) ih
    exact .back i1 g1 (.back ib gb (.new s2.gr.s ib hr (.lst ro) (hk out hp fun x => by rw [hm3 x, decide_eq_true_iff])))⟩
end
end Fz
/-! rows of weights as dicts -/
namespace Fz
open PySem PySem.Spec PyProof.Rows L2
def gD {κ : Type} (w : World) (f : κ → D) (row : List (κ × Rat)) : D := .ndc w (row.map fun p => f p.1) (row.map fun p => fr p.2)
/-- keys as data -/
structure KeyF {κ : Type} (f : κ → D) : Prop where
  ok : ∀ k, keyT (f k) = true
  inj : ∀ a b, nkD (f a) = nkD (f b) → a = b
section
variable {κ : Type} [DecidableEq κ] {f : κ → D} (F : KeyF f)
include F
theorem look_g (k : κ) : ∀ row : List (κ × Rat), nLook (row.map fun p => f p.1) (row.map fun p => fr p.2) (f k) = (gLook row k).map fr
  | [] => rfl
  | p :: r => by
    rw [List.map_cons, List.map_cons, nLook, gLook, look_g k r]
    by_cases h : p.1 = k
    · rw [if_pos h, if_pos (by rw [h])]; rfl
    · rw [if_neg h, if_neg fun z => h (F.inj _ _ z)]
theorem has_g (k : κ) : ∀ row : List (κ × Rat), nHas (row.map fun p => f p.1) (f k) = (gLook row k).isSome
  | [] => rfl
  | p :: r => by
    rw [List.map_cons, nHas, gLook, has_g k r]
    by_cases h : p.1 = k
    · rw [if_pos h, if_pos (by rw [h])]; rfl
    · rw [if_neg h, if_neg fun z => h (F.inj _ _ z)]
theorem set_g (k : κ) (q : Rat) : ∀ row : List (κ × Rat), nSet (row.map fun p => f p.1) (row.map fun p => fr p.2) (f k) (fr q) = (gSet row k q).map (fun p => fr p.2) ∧ (gSet row k q).map (fun p => f p.1) = row.map fun p => f p.1
  | [] => ⟨rfl, rfl⟩
  | p :: r => by
    obtain ⟨h1, h2⟩ := set_g k q r
    rw [List.map_cons, List.map_cons, nSet, gSet, h1, List.map_cons, List.map_cons, h2]
    by_cases h : p.1 = k
    · rw [if_pos h, if_pos (by rw [h])]
      exact ⟨rfl, by rw [h]⟩
    · rw [if_neg h, if_neg fun z => h (F.inj _ _ z)]
      exact ⟨rfl, rfl⟩
theorem put_g (w : World) (k : κ) (q : Rat) (row : List (κ × Rat)) : D.ndc w (nPutK (row.map fun p => f p.1) (f k)) (nPutV (row.map fun p => f p.1) (row.map fun p => fr p.2) (f k) (fr q)) = gD w f (gPut row k q) := by
  unfold nPutK nPutV gPut gD
  rw [has_g F]
  cases h : (gLook row k).isSome with
  | true =>
    obtain ⟨h1, h2⟩ := set_g F k q row
    rw [if_pos rfl, if_pos rfl, if_pos rfl, h1, h2]
  | false => rw [if_neg Bool.false_ne_true, if_neg Bool.false_ne_true, if_neg Bool.false_ne_true, List.map_append, List.map_append]; rfl
theorem get_g (k : κ) (row : List (κ × Rat)) : (nLook (row.map fun p => f p.1) (row.map fun p => fr p.2) (f k)).getD (fr 0) = fr ((gLook row k).getD 0) := by
  rw [look_g F]
  cases gLook row k <;> rfl
end
theorem pairs_g {κ : Type} (f : κ → D) (row : List (κ × Rat)) : pairsD (row.map fun p => f p.1) (row.map fun p => fr p.2) = row.map fun p => D.tup [f p.1, fr p.2] := by
  unfold pairsD
  rw [zip_map2, List.map_map]
  rfl
section
variable {B : Bx} {ρ : List En} {e f : Expr} {x y : Str} {pos p' p'' dp lp : Pos} {rest : List Stmt} {D0 : Ed}
/-- x, y = {k: e}, [] -/
theorem s_parND (i j n : Nat) {kd : D} {kt kk pt2 pt} (hk : litD n e = some kd) (ht : keyT kd = true) (hu : B.X.A.units + 9 < cLine) (h : Tk B ρ f fun d => Tss B ((ρ.set i (.val (.ndc B.X.w [kd] [d]))).set j (.own (.lst []))) rest D0) (hc : B.X.calm = true) (hN : B.X.N.Nodup) (hij : i ≠ j := by decide) (hi : B.X.N[i]? = some x := by rfl) (hj : B.X.N[j]? = some y := by rfl)
    (hx : B.X.env.scope.names.lookup x = some .local := by rfl) (hy : B.X.env.scope.names.lookup y = some .local := by rfl)
    (hw : swappedStores [.Tuple [.Name x p', .Name y p''] kt pt] (.Tuple [.Dict [some e] [f] dp, .List [] lp] kk pt2) B.X.env = pure (some [x, y]) := by rfl)
    (hs : swapsWithSole [.Tuple [.Name x p', .Name y p''] kt pt] (.Tuple [.Dict [some e] [f] dp, .List [] lp] kk pt2) pos.line B.X.env = pure false := by rfl) :
    TssS B ρ (.Assign [.Tuple [.Name x p', .Name y p''] kt pt] (.Tuple [.Dict [some e] [f] dp, .List [] lp] kk pt2) pos :: rest) D0 :=
  ⟨s_parL i j (tk_ndisp1 hu ((lit_all n).1 e kd _ hk ⟨ht, h.mono fun d hd => ta_nil ⟨lenOk (Nat.le_of_ble_eq_true rfl), hd⟩⟩)) hc hN hij hi hj hx hy hw hs⟩
/-- (x, y, z) = (a, {k: v}, []), by a tuple -/
theorem s_tup3ND (i j l n : Nat) {a : Expr} {z : Str} {kd vd : D} {px py pz : Pos} {kt kk pt2 pt} (hk : litD n e = some kd) (ht : keyT kd = true) (hv : litD n f = some vd) (hu : B.X.A.units + 9 < cLine) (h : Tk B ρ a fun d => Tss B (((ρ.set i (.val d)).set j (.val (.ndc B.X.w [kd] [vd]))).set l (.own (.lst []))) rest D0) (hg : PGs B.X [.Name x px, .Name y py, .Name z pz] (gNames [i, j, l])) (hc : B.X.calm = true)
    (hn : (assignEach [.Name x px, .Name y py, .Name z pz] B.X.env).length = 3 := by rfl) (hst : (assignEach [.Name x px, .Name y py, .Name z pz] B.X.env).findIdx? (·.1) = none := by rfl)
    (hs : swapsWithSole [.Tuple [.Name x px, .Name y py, .Name z pz] kt pt] (.Tuple [a, .Dict [some e] [f] dp, .List [] lp] kk pt2) pos.line B.X.env = pure false := by rfl) (hw : swappedStores [.Tuple [.Name x px, .Name y py, .Name z pz] kt pt] (.Tuple [a, .Dict [some e] [f] dp, .List [] lp] kk pt2) B.X.env = pure none := by rfl)
    (h1 : (assignEach [.Tuple [.Name x px, .Name y py, .Name z pz] kt pt] B.X.env).map (·.2) = [assign (.Tuple [.Name x px, .Name y py, .Name z pz] kt pt) B.X.env] := by rfl)
    (he : starEach [a, .Dict [some e] [f] dp, .List [] lp] B.X.env = (false, eval a B.X.env) :: starEach [.Dict [some e] [f] dp, .List [] lp] B.X.env := by rfl) :
    TssS B ρ (.Assign [.Tuple [.Name x px, .Name y py, .Name z pz] kt pt] (.Tuple [a, .Dict [some e] [f] dp, .List [] lp] kk pt2) pos :: rest) D0 :=
  ⟨s_tup3L i j l (h.mono fun d hd => (tk_ndLit n hk ht hv hu (ta_nil ⟨lenOk (Nat.le_of_ble_eq_true rfl), hd⟩)).h) hg hc hn hst hs hw h1 he rfl rfl⟩
end
/-! the two kinds of keys -/
def pkD (k : PK) : D := .tup [.int k.1, .int k.2.1, .int k.2.2]
def lkD (k : LK) : D := .tup [.int k.1, .tup (k.2.map .int)]
theorem nkL_ints : ∀ xs : List Int, nkL (xs.map .int) = xs.map NestedKey.num
  | [] => rfl
  | x :: xs => by rw [List.map_cons, List.map_cons, nkL, nkL_ints xs, nkD]
theorem keyL_ints : ∀ xs : List Int, keyL (xs.map .int) = true
  | [] => rfl
  | x :: xs => by rw [List.map_cons, keyL, keyL_ints xs, keyD]; rfl
theorem depth_nums : ∀ xs : List Int, NestedKey.depthAll (xs.map NestedKey.num) = 0
  | [] => rfl
  | x :: xs => by
    rw [List.map_cons, NestedKey.depthAll, depth_nums xs]
    rfl
theorem map_num_inj : ∀ {a b : List Int}, a.map NestedKey.num = b.map NestedKey.num → a = b
  | [], [], _ => rfl
  | [], _ :: _, h => by cases h
  | _ :: _, [], h => by cases h
  | x :: a, y :: b, h => by
    rw [List.map_cons, List.map_cons] at h
    injection h with h1 h2
    injection h1 with h1
    rw [h1, map_num_inj h2]
theorem pkF : KeyF pkD := ⟨fun _ => rfl, fun a b h => by
  obtain ⟨a1, a2, a3⟩ := a
  obtain ⟨b1, b2, b3⟩ := b
  have h : NestedKey.tup [.num a1, .num a2, .num a3] = NestedKey.tup [.num b1, .num b2, .num b3] := h
  injection h with h
  injection h with h1 h
  injection h with h2 h
  injection h with h3 h
  injection h1 with h1
  injection h2 with h2
  injection h3 with h3
  rw [h1, h2, h3]⟩
theorem lkF : KeyF lkD := ⟨fun k => by
  have e1 : keyL [.int k.1, .tup (k.2.map .int)] = true := by
    rw [keyL, keyL, keyL, keyD, keyD, keyL_ints]
    rfl
  have e2 : (NestedKey.tup (nkL [.int k.1, .tup (k.2.map .int)])).depth ≤ 8 := by
    rw [nkL, nkL, nkL, nkD, nkD, nkL_ints, NestedKey.depth, NestedKey.depthAll, NestedKey.depthAll, NestedKey.depthAll, NestedKey.depth, NestedKey.depth, depth_nums]
    decide
  show (keyL [.int k.1, .tup (k.2.map .int)] && decide ((NestedKey.tup (nkL [.int k.1, .tup (k.2.map .int)])).depth ≤ 8)) = true
  rw [e1, decide_eq_true e2]
  rfl, fun a b h => by
  obtain ⟨a1, a2⟩ := a
  obtain ⟨b1, b2⟩ := b
  unfold lkD at h
  rw [nkD, nkD, nkL, nkL, nkL, nkL, nkL, nkL, nkD, nkD, nkD, nkD, nkL_ints, nkL_ints] at h
  injection h with h
  injection h with h1 h
  injection h with h2 h
  injection h1 with h1
  injection h2 with h2
  have h1 : a1 = b1 := h1
  have h2 : a2.map NestedKey.num = b2.map NestedKey.num := h2
  rw [h1, map_num_inj h2]⟩
end Fz
/-! instances with a list of their own, that are changed -/
namespace Fz
open PySem PySem.Spec PyProof.Rows L2
/-- it stands -/
structure RdAt (K : PySem.W.Frag) (S : Addr) (W : Addr → Prop) (H G : Hp) (r : Rd) : Prop where
  o : H r.p = some r.o
  l : H r.ls = some (.lst r.xs)
  rep : RdRep K S G r
  ne : r.p ≠ r.ls
  fr : ∀ b, r.has b → G b = none ∧ ¬ W b
theorem RdAt.sm {K : PySem.W.Frag} {S : Addr} {W : Addr → Prop} {H G : Hp} {r : Rd} (h : RdAt K S W H G r) {b : Addr} (hb : r.has b) : ∃ o, H b = some o := by
  rcases hb with rfl | rfl
  · exact ⟨_, h.o⟩
  · exact ⟨_, h.l⟩
theorem RdAt.step {K : PySem.W.Frag} {S : Addr} {W : Addr → Prop} {H G H' G' : Hp} {r : Rd} (h : RdAt K S W H G r) (a : Gr W G H G' H') : RdAt K S W H' G' r :=
  ⟨a.h _ _ (h.fr _ (.inl rfl)).2 h.o, a.h _ _ (h.fr _ (.inr rfl)).2 h.l, h.rep.mono a.g, h.ne, fun b hb => by
    obtain ⟨o, e⟩ := h.sm hb
    exact ⟨a.d b o e (h.fr b hb).1, (h.fr b hb).2⟩⟩
/-- the heap without it -/
def less (r : Rd) (H : Hp) : Hp := fun b => if b = r.p ∨ b = r.ls then none else H b
theorem less_has {r : Rd} {H : Hp} {b : Addr} (h : r.has b) : less r H b = none := if_pos h
theorem less_ne {r : Rd} {H : Hp} {b : Addr} (h : ¬ r.has b) : less r H b = H b := if_neg h
theorem less_some {r : Rd} {H : Hp} {b : Addr} {o : HO} (h : less r H b = some o) : ¬ r.has b ∧ H b = some o := by
  by_cases hb : r.has b
  · rw [less_has hb] at h; cases h
  · exact ⟨hb, by rw [less_ne hb] at h; exact h⟩
section
variable {B : Bx} {ρ : List En} {σ : L2.St} {H G H' G' : Hp}
theorem StOk.rdAt (s : StOk B ρ σ H G) {j : Nat} {r : Rd} (h : ρ[j]? = some (.rd r)) : RdAt B.X.K B.S B.M.W H G r ∧ σ[j]? = some (some (.ref r.p)) ∧ ∀ b, r.has b → B.H0 b = none := by
  obtain ⟨a1, a2, a3, a4, a5, a6⟩ := s.rd.a0 j r h
  exact ⟨⟨a2, a3, a4, a5, fun b hb => ⟨(a6 b hb).1, (a6 b hb).2.2⟩⟩, a1, fun b hb => (a6 b hb).2.1⟩
/-- it is changed -/
theorem StOk.rdTo (s : StOk B ρ σ H G) {j : Nat} {r r' : Rd} (hj : ρ[j]? = some (.rd r)) (hp : r'.p = r.p) (hls : r'.ls = r.ls ∨ (H r'.ls = none)) (hH : ∀ b o, ¬ r'.has b → H b = some o → H' b = some o) (ho : H' r'.p = some r'.o) (hl : H' r'.ls = some (.lst r'.xs)) (hr : RdRep B.X.K B.S G r') (hne : r'.p ≠ r'.ls) :
    StOk B (ρ.set j (.rd r')) σ H' G := by
  obtain ⟨ra, rs, r0⟩ := s.rdAt hj
  have jl : j < ρ.length := (List.getElem?_eq_some_iff.mp hj).1
  have free : ∀ b, r'.has b → G b = none ∧ B.H0 b = none ∧ ¬ B.M.W b := fun b hb => by
    rcases hb with rfl | rfl
    · rw [hp]; exact ⟨(ra.fr _ (.inl rfl)).1, r0 _ (.inl rfl), (ra.fr _ (.inl rfl)).2⟩
    · rcases hls with e | e
      · rw [e]; exact ⟨(ra.fr _ (.inr rfl)).1, r0 _ (.inr rfl), (ra.fr _ (.inr rfl)).2⟩
      · have w : ¬ B.M.W r'.ls := fun w => by
          obtain ⟨_, o', z⟩ := B.M.nn s.inv w
          rw [e] at z; cases z
        refine ⟨s.gr.s.free e, ?_, w⟩
        cases z : B.H0 r'.ls with
        | none => rfl
        | some u => rw [s.gr.h _ u w z] at e; cases e
  have hs : Same G H' := fun b o e => hH b o (fun hb => by rw [(free b hb).1] at e; cases e) (s.gr.s b o e)
  have othO : ∀ (i : Nat) (q : Option Addr) (d : D) (x : Addr), ρ[i]? = some (.ow q d) → σ[i]? = some (some (.ref x)) → ¬ r'.has x := fun i q d x h1 h2 hb => by
    obtain ⟨p0, o0, e1, e2, _⟩ := s.ow i q d h1
    rw [h2] at e1
    obtain rfl : x = p0 := by cases e1; rfl
    rcases hb with e | e
    · exact s.rd.ro j i r q d x hj h1 h2 (.inl (e.trans hp))
    · rcases hls with z | z
      · exact s.rd.ro j i r q d x hj h1 h2 (.inr (e.trans z))
      · rw [← e, e2] at z; cases z
  have othR : ∀ (i : Nat) (r2 : Rd), ρ[i]? = some (.rd r2) → j ≠ i → ∀ b, r2.has b → ¬ r'.has b := fun i r2 h1 hij b hb hb' => by
    obtain ⟨o2, e2⟩ := s.rd.sm h1 hb
    rcases hb' with e | e
    · exact s.rd.rr j i r r2 hj h1 hij b (.inl (e.trans hp)) hb
    · rcases hls with z | z
      · exact s.rd.rr j i r r2 hj h1 hij b (.inr (e.trans z)) hb
      · rw [← e, e2] at z; cases z
  have back : ∀ {i : Nat} {f : En}, (ρ.set j (.rd r'))[i]? = some f → (j = i ∧ f = .rd r') ∨ (j ≠ i ∧ ρ[i]? = some f) := fun {i f} h => by
    by_cases hij : j = i
    · subst hij
      rw [List.getElem?_set_self jl] at h
      exact .inl ⟨rfl, (Option.some.inj h).symm⟩
    · rw [List.getElem?_set_ne hij] at h
      exact .inr ⟨hij, h⟩
  refine ⟨⟨s.gr.g, hs, fun b o w h => ?_, s.gr.d⟩, B.M.st s.inv (.refl _) hs (fun b w => (B.M.nn s.inv w).1) (fun b o w h => hH b o (fun hb => (free b hb).2.2 w) h), by rw [List.length_set]; exact s.len, fun i d h => ?_, fun i q d h => ?_, fun a b q1 r1 d2 e q h1 h2 h3 h4 => ?_, ⟨fun i r2 h => ?_, fun i k r1 r2 h1 h2 hik b hb => ?_, fun i k r1 q d x h1 h2 hx => ?_⟩⟩
  · exact hH b o (fun hb => by rw [(free b hb).2.1] at h; cases h) (s.gr.h b o w h)
  · rcases back h with ⟨_, z⟩ | ⟨_, z⟩
    · cases z
    · exact s.va i d z
  · rcases back h with ⟨_, z⟩ | ⟨_, z⟩
    · cases z
    · obtain ⟨p0, o0, e1, e2, e3⟩ := s.ow i q d z
      exact ⟨p0, o0, e1, hH p0 o0 (othO i q d p0 z e1) e2, e3⟩
  · rcases back h1 with ⟨_, z1⟩ | ⟨_, z1⟩
    · cases z1
    · rcases back h2 with ⟨_, z2⟩ | ⟨_, z2⟩
      · cases z2
      · exact s.ap a b _ _ d2 e q z1 z2 h3 h4
  · rcases back h with ⟨rfl, z⟩ | ⟨hij, z⟩
    · cases z
      exact ⟨by rw [hp]; exact rs, ho, hl, hr, hne, free⟩
    · obtain ⟨a1, a2, a3, a4, a5, a6⟩ := s.rd.a0 i r2 z
      exact ⟨a1, hH _ _ (othR i r2 z hij _ (.inl rfl)) a2, hH _ _ (othR i r2 z hij _ (.inr rfl)) a3, a4, a5, a6⟩
  · rcases back h1 with ⟨rfl, z1⟩ | ⟨hi, z1⟩
    · cases z1
      rcases back h2 with ⟨rfl, z2⟩ | ⟨hk, z2⟩
      · exact absurd rfl hik
      · exact fun hb2 => othR k r2 z2 hk b hb2 hb
    · rcases back h2 with ⟨rfl, z2⟩ | ⟨hk, z2⟩
      · cases z2
        exact othR i r1 z1 hi b hb
      · exact s.rd.rr i k r1 r2 z1 z2 hik b hb
  · rcases back h2 with ⟨_, z2⟩ | ⟨_, z2⟩
    · cases z2
    · rcases back h1 with ⟨_, z1⟩ | ⟨_, z1⟩
      · cases z1
        exact othO k q d x z2 hx
      · exact s.rd.ro i k r1 q d x z1 z2 hx
/-- a new one, in slot i -/
theorem StOk.putRd {H1 G1 : Hp} {i : Nat} {r : Rd} (s1 : StOk B ρ σ H1 G1) (n1 : H1 r.p = none) (n2 : H1 r.ls = none) (s : StOk B ρ σ H G) (ra : RdAt B.X.K B.S B.M.W H G r) (hl : i < ρ.length) : StOk B (ρ.set i (.rd r)) (σ.set i (some (.ref r.p))) H G := by
  have nn : ∀ b, r.has b → H1 b = none := fun b hb => by
    rcases hb with rfl | rfl
    · exact n1
    · exact n2
  have h0 : ∀ b, r.has b → B.H0 b = none := fun b hb => by
    cases z : B.H0 b with
    | none => rfl
    | some u =>
      have := s1.gr.h b u (s1.noW (nn b hb)) z
      rw [nn b hb] at this; cases this
  have il : i < σ.length := by rw [s.len]; exact hl
  have back : ∀ {k : Nat} {f : En}, (ρ.set i (.rd r))[k]? = some f → (i = k ∧ f = .rd r) ∨ (i ≠ k ∧ ρ[k]? = some f) := fun {k f} h => by
    by_cases hij : i = k
    · subst hij
      rw [List.getElem?_set_self hl] at h
      exact .inl ⟨rfl, (Option.some.inj h).symm⟩
    · rw [List.getElem?_set_ne hij] at h
      exact .inr ⟨hij, h⟩
  have othO : ∀ (k : Nat) (q : Option Addr) (d : D) (x : Addr), ρ[k]? = some (.ow q d) → σ[k]? = some (some (.ref x)) → ¬ r.has x := fun k q d x h1 h2 hb => by
    obtain ⟨p0, o0, e1, e2, _⟩ := s1.ow k q d h1
    rw [h2] at e1
    obtain rfl : x = p0 := by cases e1; rfl
    rw [nn x hb] at e2; cases e2
  have othR : ∀ (k : Nat) (r2 : Rd), ρ[k]? = some (.rd r2) → ∀ b, r2.has b → ¬ r.has b := fun k r2 h1 b hb hb' => by
    obtain ⟨o2, e2⟩ := s1.rd.sm h1 hb
    rw [nn b hb'] at e2; cases e2
  refine ⟨s.gr, s.inv, by rw [List.length_set, List.length_set, s.len], fun k d h => ?_, fun k q d h => ?_, fun a b q1 r1 d2 e q h1 h2 h3 h4 => ?_, ⟨fun k r2 h => ?_, fun k m r1 r2 h1 h2 hik b hb => ?_, fun k m r1 q d x h1 h2 hx => ?_⟩⟩
  · rcases back h with ⟨_, z⟩ | ⟨hn, z⟩
    · cases z
    · rw [List.getElem?_set_ne hn]
      exact s.va k d z
  · rcases back h with ⟨_, z⟩ | ⟨hn, z⟩
    · cases z
    · rw [List.getElem?_set_ne hn]
      exact s.ow k q d z
  · rcases back h1 with ⟨_, z1⟩ | ⟨m1, z1⟩
    · cases z1
    · rcases back h2 with ⟨_, z2⟩ | ⟨m2, z2⟩
      · cases z2
      · rw [List.getElem?_set_ne m1] at h3
        rw [List.getElem?_set_ne m2] at h4
        exact s.ap a b _ _ d2 e q z1 z2 h3 h4
  · rcases back h with ⟨rfl, z⟩ | ⟨hn, z⟩
    · cases z
      exact ⟨List.getElem?_set_self il, ra.o, ra.l, ra.rep, ra.ne, fun b hb => ⟨(ra.fr b hb).1, h0 b hb, (ra.fr b hb).2⟩⟩
    · rw [List.getElem?_set_ne hn]
      exact s.rd.a0 k r2 z
  · rcases back h1 with ⟨rfl, z1⟩ | ⟨hi, z1⟩
    · cases z1
      rcases back h2 with ⟨rfl, z2⟩ | ⟨hk, z2⟩
      · exact absurd rfl hik
      · exact fun hb2 => othR m r2 z2 b hb2 hb
    · rcases back h2 with ⟨rfl, z2⟩ | ⟨hk, z2⟩
      · cases z2
        exact othR k r1 z1 b hb
      · exact s.rd.rr k m r1 r2 z1 z2 hik b hb
  · rcases back h2 with ⟨_, z2⟩ | ⟨hm, z2⟩
    · cases z2
    · rw [List.getElem?_set_ne hm] at hx
      rcases back h1 with ⟨_, z1⟩ | ⟨_, z1⟩
      · cases z1
        exact othO m q d x z2 hx
      · exact s.rd.ro k m r1 q d x z1 z2 hx
end
/-! ### what it holds -/
theorem RdRep.all {K : PySem.W.Frag} {S : Addr} {G : Hp} {r : Rd} (h : RdRep K S G r) : ∃ dx kvs, r.o = .ins r.C dx kvs ∧ kvs.map (·.1) = r.f1 ++ r.sf :: r.f2 ∧ RepAll K S G (kvs.map (·.2)) (r.d1 ++ .ref r.ls :: r.d2) := by
  obtain ⟨dx, k1, k2, h1, h2, h3, h4, h5, h6⟩ := h.ex
  refine ⟨dx, _, h1, ?_, ?_⟩
  · rw [List.map_append, List.map_cons, h2, h4]
  · rw [List.map_append, List.map_cons]
    exact h3.append (.cons (.ref _) h5)
section
variable {B : Bx} {ρ : List En} {a b c e : Expr} {es : List Expr} {k : D → Prop} {x y f : Str} {pos p p' ap np cp : Pos} {rest : List Stmt} {D0 : Ed}
/-- name.f, the i-th field -/
theorem tk_rdf (j i : Nat) {r : Rd} {d : D} (hr : ρ[j]? = some (.rd r)) (hc : Cls B.X.K r.C) (hn : NoAttr B.X.K r.C f) (nd : (r.f1 ++ r.sf :: r.f2).Nodup) (hf : (r.f1 ++ r.sf :: r.f2)[i]? = some f) (hd : (r.d1 ++ .ref r.ls :: r.d2)[i]? = some d) (h : k d)
    (hN : B.X.N[j]? = some x := by rfl) (hv : Vis B.X.env.scope x := by first | exact Or.inl rfl | exact Or.inr (Or.inl rfl) | exact Or.inr (Or.inr rfl)) (hdb : (x == ("__debug__" : Str)) = false := by decide) (hcd : (x == ("__classdict__" : Str)) = false := by decide)
    (hb : attributeBase (.Name x np) f B.X.env (eval (.Name x np) B.X.env) = eval (.Name x np) B.X.env := by rfl) : Tk B ρ (.Attribute (.Name x np) f pos) k := Tk.of fun σ H G s => by
  obtain ⟨ra, rs, _⟩ := s.rdAt hr
  obtain ⟨dx, kvs, eo, ek, rk⟩ := ra.rep.all
  obtain ⟨v, hv', rv⟩ := rk.get hd
  exact ⟨_, pe_fld (pe_var hN hv hdb hcd) hb, .ref r.p, rs, r.p, r.C, dx, kvs, v, rfl, by rw [ra.o, eo], hc, hn, lookup_at (by rw [ek]; exact nd) (by rw [ek]; exact hf) hv', .now s rv h⟩
/-- name.s[e], s the own list -/
theorem tk_rdix (j : Nat) {r : Rd} (hr : ρ[j]? = some (.rd r)) (hc : Cls B.X.K r.C) (hn : NoAttr B.X.K r.C f) (nd : (r.f1 ++ r.sf :: r.f2).Nodup) (hf : r.sf = f) (h : Tk B ρ b fun y => oIx (.lst r.st) y k)
    (hN : B.X.N[j]? = some x := by rfl) (hv : Vis B.X.env.scope x := by first | exact Or.inl rfl | exact Or.inr (Or.inl rfl) | exact Or.inr (Or.inr rfl)) (hdb : (x == ("__debug__" : Str)) = false := by decide) (hcd : (x == ("__classdict__" : Str)) = false := by decide)
    (hb : attributeBase (.Name x np) f B.X.env (eval (.Name x np) B.X.env) = eval (.Name x np) B.X.env := by rfl) (hs : PlainIx b := by exact fun _ _ => rfl) : Tk B ρ (.Subscript (.Attribute (.Name x np) f ap) b pos) k := Tk.of fun σ H G s => by
  obtain ⟨ra, rs, _⟩ := s.rdAt hr
  obtain ⟨dx, kvs, eo, ek, rk⟩ := ra.rep.all
  obtain ⟨_, _, _, _, _, _, _, _, rst⟩ := ra.rep.ex
  have hi : (r.f1 ++ r.sf :: r.f2)[r.f1.length]? = some f := by rw [List.getElem?_append_right (Nat.le_refl _), Nat.sub_self, ← hf]; rfl
  have hl1 : r.d1.length = r.f1.length := by
    obtain ⟨_, k1, k2, _, h2, h3, _⟩ := ra.rep.ex
    rw [← h3.length, List.length_map, ← h2, List.length_map]
  have hdi : (r.d1 ++ D.ref r.ls :: r.d2)[r.f1.length]? = some (.ref r.ls) := by rw [← hl1, List.getElem?_append_right (Nat.le_refl _), Nat.sub_self]; rfl
  obtain ⟨v, hv', rv⟩ := rk.get hdi
  obtain rfl := rv.refI
  refine ⟨_, pe_ix ix_list (pe_fld (pe_var hN hv hdb hcd) hb) pe_W hs, .ref r.p, rs, r.p, r.C, dx, kvs, _, rfl, by rw [ra.o, eo], hc, hn, lookup_at (by rw [ek]; exact nd) (by rw [ek]; exact hi) hv', h.te s fun v2 d2 G2 H2 g2 i2 r2 h2 => ?_⟩
  have s2 := s.step g2 i2
  unfold oIx at h2
  cases d2 with
  | int i =>
    obtain ⟨d', he, hk⟩ := h2
    obtain ⟨z, hz, rz⟩ := atI_rep rst he
    have e2 := r2.intI
    subst e2
    exact ⟨r.ls, _, _, z, rfl, rfl, SqL.of (g2.h _ _ (ra.fr _ (.inr rfl)).2 ra.l), hz, .back i2 g2 (.val s2.gr.s i2 (rz.mono g2.g) hk)⟩
  | _ => exact h2.elim
end
end Fz
/-! .. how a method changes it; what such a def promises -/
namespace Fz
open PySem PySem.Spec PyProof.Rows L2
theorem putF_app {f : Str} {v : V} {r : List (Str × V)} : ∀ {kvs : List (Str × V)}, f ∉ kvs.map (·.1) → putF f v (kvs ++ r) = kvs ++ putF f v r
  | [], _ => rfl
  | (g, w) :: l, h => by
    rw [List.map_cons, List.mem_cons, not_or] at h
    show (if g = f then _ else _) = _
    rw [if_neg (fun z => h.1 z.symm)]
    show (g, w) :: putF f v (l ++ r) = (g, w) :: (l ++ putF f v r)
    rw [putF_app h.2]
theorem putF_hd {f : Str} {v w : V} {r : List (Str × V)} : putF f v ((f, w) :: r) = (f, v) :: r := by
  show (if f = f then _ else _) = _
  rw [if_pos rfl]
theorem putF_tl {f g : Str} {v w : V} {r : List (Str × V)} (h : g ≠ f) : putF f v ((g, w) :: r) = (g, w) :: putF f v r := by
  show (if g = f then _ else _) = _
  rw [if_neg h]
section
variable {B : Bx} {ρ : List En} {a b c e : Expr} {es : List Expr} {k : D → Prop} {x y f : Str} {pos p p' ap np fp cp : Pos} {rest : List Stmt} {D0 : Ed}
/-- the own list's place -/
theorem RdAt.fld {K : PySem.W.Frag} {S : Addr} {W : Addr → Prop} {H G : Hp} {r : Rd} (ra : RdAt K S W H G r) (nd : (r.f1 ++ r.sf :: r.f2).Nodup) : ∃ dx kvs, r.o = .ins r.C dx kvs ∧ kvs.lookup r.sf = some (.ref r.ls) := by
  obtain ⟨dx, kvs, eo, ek, rk⟩ := ra.rep.all
  have hi : (r.f1 ++ r.sf :: r.f2)[r.f1.length]? = some r.sf := by rw [List.getElem?_append_right (Nat.le_refl _), Nat.sub_self]; rfl
  have hl1 : r.d1.length = r.f1.length := by
    obtain ⟨_, k1, k2, _, h2, h3, _⟩ := ra.rep.ex
    rw [← h3.length, List.length_map, ← h2, List.length_map]
  have hdi : (r.d1 ++ D.ref r.ls :: r.d2)[r.f1.length]? = some (.ref r.ls) := by rw [← hl1, List.getElem?_append_right (Nat.le_refl _), Nat.sub_self]; rfl
  obtain ⟨v, hv', rv⟩ := rk.get hdi
  obtain rfl := rv.refI
  exact ⟨dx, kvs, eo, lookup_at (by rw [ek]; exact nd) (by rw [ek]; exact hi) hv'⟩
/-- with one more item -/
def Rd.app (r : Rd) (v : V) (d : D) : Rd := { r with xs := r.xs ++ [v], st := r.st ++ [d] }
/-- name.s.append(e) -/
theorem s_rdapp (j : Nat) {r : Rd} (hr : ρ[j]? = some (.rd r)) (hc : Cls B.X.K r.C) (hn : NoAttr B.X.K r.C f) (nd : (r.f1 ++ r.sf :: r.f2).Nodup) (hf : r.sf = f) (h : Tk B ρ e fun d => r.st.length < sizeLine ∧ ∀ v, Tss B (ρ.set j (.rd (r.app v d))) rest D0)
    (hN : B.X.N[j]? = some x := by rfl) (hv : Vis B.X.env.scope x := by first | exact Or.inl rfl | exact Or.inr (Or.inl rfl) | exact Or.inr (Or.inr rfl)) (hd : (x == ("__debug__" : Str)) = false := by decide) (hcd : (x == ("__classdict__" : Str)) = false := by decide)
    (hb : attributeBase (.Name x np) f B.X.env (eval (.Name x np) B.X.env) = eval (.Name x np) B.X.env := by rfl)
    (hbase : attributeBase (.Attribute (.Name x np) f fp) "append" B.X.env (eval (.Attribute (.Name x np) f fp) B.X.env) = eval (.Attribute (.Name x np) f fp) B.X.env := by rfl)
    (hfew : ((backTo cp (starEach [e] B.X.env)).all (fun x => !x.1) && (backToKw cp (keywordEach [] B.X.env)).all (fun x => x.1.isSome)
      && decide ([e].length + ([] : List Keyword).length + (if ([] : List Keyword).isEmpty then 0 else 1) < 30)) = true := by rfl)
    (hline : (ap.endLine == cp.line) = true := by rfl) (hs : starEach [e] B.X.env = (false, eval e B.X.env) :: starEach [] B.X.env := by rfl) (hplain : (backTo cp (starEach [] B.X.env)).any (·.1) = false := by rfl)
    (hsw : swapsWith (.Call (.Attribute (.Attribute (.Name x np) f fp) "append" ap) [e] [] cp) none pos.line B.X.env = pure false := by rfl) :
    Tss B ρ (.Expr (.Call (.Attribute (.Attribute (.Name x np) f fp) "append" ap) [e] [] cp) pos :: rest) D0 := Tss.of fun kp σ H G s g => by
  subst hf
  obtain ⟨ra, rs, _⟩ := s.rdAt hr
  obtain ⟨dx, kvs, eo, hlk⟩ := ra.fld nd
  refine ⟨_, ps_expr (pe_bm PySem.F.plainAttrs_list PySem.F.slot_list_append PySem.F.type_list_append mt_append (pe_fld (pe_var hN hv hd hcd) hb) (pa_cons pe_W pa_nil hs) hbase hfew hline hs hplain) hsw, .ref r.p, rs, r.p, r.C, dx, kvs, _, rfl, by rw [ra.o, eo], hc, hn, hlk, .inl ⟨rfl, _, SqL.of ra.l⟩, ?_⟩
  refine h.te s fun v d G' H' g' i' r' h' => ?_
  have s1 := s.step g' i'
  obtain ⟨ra', _, _⟩ := s1.rdAt hr
  obtain ⟨_, _, _, _, _, _, _, _, rst⟩ := ra'.rep.ex
  refine ⟨r.ls, r.xs, v, rfl, rfl, ra'.l, by rw [rst.length]; exact h'.1, h'.2 v kp _ _ G' (s1.rdTo hr rfl (.inl rfl) (fun b o hb e => ?_) ?_ upd_same ?_ ra'.ne) (g.trans g'.g)⟩
  · rw [upd_ne (show b ≠ r.ls from fun z => hb (.inr z))]; exact e
  · show upd H' r.ls _ r.p = some r.o
    rw [upd_ne ra'.ne]; exact ra'.o
  · obtain ⟨dx2, k1, k2, h1, h2, h3, h4, h5, h6⟩ := ra'.rep.ex
    exact ⟨dx2, k1, k2, h1, h2, h3, h4, h5, h6.append (.one r')⟩
/-- without its last item -/
def Rd.cut (r : Rd) : Rd := { r with xs := r.xs.dropLast, st := r.st.dropLast }
theorem RepAll.dropLast {K : PySem.W.Frag} {S : Addr} {G : Hp} {vs : List V} {ds : List D} (r : RepAll K S G vs ds) : RepAll K S G vs.dropLast ds.dropLast := by
  rw [List.dropLast_eq_take, List.dropLast_eq_take, r.length]
  exact r.take _
/-- name.s.pop() -/
theorem s_rdpop (j : Nat) {r : Rd} (hr : ρ[j]? = some (.rd r)) (hc : Cls B.X.K r.C) (hn : NoAttr B.X.K r.C f) (nd : (r.f1 ++ r.sf :: r.f2).Nodup) (hf : r.sf = f) (hne : r.st ≠ []) (h : Tss B (ρ.set j (.rd r.cut)) rest D0)
    (hN : B.X.N[j]? = some x := by rfl) (hv : Vis B.X.env.scope x := by first | exact Or.inl rfl | exact Or.inr (Or.inl rfl) | exact Or.inr (Or.inr rfl)) (hd : (x == ("__debug__" : Str)) = false := by decide) (hcd : (x == ("__classdict__" : Str)) = false := by decide)
    (hb : attributeBase (.Name x np) f B.X.env (eval (.Name x np) B.X.env) = eval (.Name x np) B.X.env := by rfl)
    (hbase : attributeBase (.Attribute (.Name x np) f fp) "pop" B.X.env (eval (.Attribute (.Name x np) f fp) B.X.env) = eval (.Attribute (.Name x np) f fp) B.X.env := by rfl)
    (hline : (ap.endLine == cp.line) = true := by rfl)
    (hsw : swapsWith (.Call (.Attribute (.Attribute (.Name x np) f fp) "pop" ap) [] [] cp) none pos.line B.X.env = pure false := by rfl) :
    Tss B ρ (.Expr (.Call (.Attribute (.Attribute (.Name x np) f fp) "pop" ap) [] [] cp) pos :: rest) D0 := Tss.of fun kp σ H G s g => by
  subst hf
  obtain ⟨ra, rs, _⟩ := s.rdAt hr
  obtain ⟨dx, kvs, eo, hlk⟩ := ra.fld nd
  obtain ⟨dx2, k1, k2, h1, h2, h3, h4, h5, rst⟩ := ra.rep.ex
  have hxl : r.xs.length = r.st.length := rst.length
  have hpos : 0 < r.st.length := List.length_pos_iff.mpr hne
  refine ⟨_, ps_expr (pe_bm0 PySem.F.plainAttrs_list PySem.F.slot_list_pop PySem.F.type_list_pop mt_pop (pe_fld (pe_var hN hv hd hcd) hb) hbase hline) hsw, .ref r.p, rs, r.p, r.C, dx, kvs, _, rfl, by rw [ra.o, eo], hc, hn, hlk, .inl ⟨rfl, _, SqL.of ra.l⟩, ?_⟩
  refine ⟨r.ls, r.xs, r.xs[r.xs.length - 1], rfl, rfl, ra.l, List.getElem?_eq_getElem (by omega), h kp _ _ G (s.rdTo hr rfl (.inl rfl) (fun b o hb e => ?_) ?_ upd_same ⟨dx2, k1, k2, h1, h2, h3, h4, h5, rst.dropLast⟩ ra.ne) g⟩
  · rw [upd_ne (show b ≠ r.ls from fun z => hb (.inr z))]; exact e
  · show upd H r.ls _ r.p = some r.o
    rw [upd_ne ra.ne]; exact ra.o
/-- name.f = e, the one field behind the own list -/
theorem s_rdfld (j : Nat) {r : Rd} (hr : ρ[j]? = some (.rd r)) (hc : Cls B.X.K r.C) (hn : NoAttr B.X.K r.C f) (nd : (r.f1 ++ r.sf :: r.f2).Nodup) (hf : r.f2 = [f]) (hl : r.f1.length < 900) (h : Tk B ρ e fun d => ∀ o, Tss B (ρ.set j (.rd { r with o := o, d2 := [d] })) rest D0)
    (hN : B.X.N[j]? = some x := by rfl) (hv : Vis B.X.env.scope x := by first | exact Or.inl rfl | exact Or.inr (Or.inl rfl) | exact Or.inr (Or.inr rfl))
    (hd : (x == ("__debug__" : Str)) = false := by decide) (hcd : (x == ("__classdict__" : Str)) = false := by decide) (hs : swapsWith e (some (.Attribute (.Name x np) f ap)) pos.line B.X.env = pure false := by rfl) :
    Tss B ρ (.Assign [.Attribute (.Name x np) f ap] e pos :: rest) D0 := Tss.of fun kp σ H G s g => by
  refine ⟨_, ps_fld (pe_var hN hv hd hcd) pe_W hs, h.te s fun v d G' H' g' i' r' h' => ?_⟩
  have s1 := s.step g' i'
  obtain ⟨ra, rs, _⟩ := s1.rdAt hr
  obtain ⟨dx, k1, k2, h1, h2, h3, h4, h5, rst⟩ := ra.rep.ex
  have hk2 : ∃ w, k2 = [(f, w)] := by
    rw [hf] at h4
    rcases k2 with _ | ⟨⟨g, w⟩, _ | ⟨q, t⟩⟩
    · cases h4
    · cases h4; exact ⟨w, rfl⟩
    · cases h4
  obtain ⟨w, rfl⟩ := hk2
  rw [hf] at nd
  have n1 : f ∉ k1.map (·.1) := fun z => by
    rw [h2] at z
    exact (List.nodup_append.mp nd).2.2 f z f (List.mem_cons_of_mem _ (.head _)) rfl
  have n2 : r.sf ≠ f := fun z => by
    have := (List.nodup_append.mp nd).2.1
    rw [z, List.nodup_cons] at this
    exact this.1 (.head _)
  have ep : putF f v (k1 ++ (r.sf, V.ref r.ls) :: [(f, w)]) = k1 ++ (r.sf, V.ref r.ls) :: [(f, v)] := by rw [putF_app n1, putF_tl n2, putF_hd]
  have hlen : (k1 ++ (r.sf, V.ref r.ls) :: [(f, w)]).length < 1000 := by
    have : k1.length = r.f1.length := by rw [← h2, List.length_map]
    rw [List.length_append, this]
    show r.f1.length + 2 < 1000
    omega
  refine ⟨.ref r.p, rs, r.p, r.C, dx, _, rfl, by rw [ra.o, h1], hc, hn, hlen, ?_⟩
  rw [ep]
  refine h' _ kp _ _ G' (s1.rdTo (r' := { r with o := .ins r.C dx (k1 ++ (r.sf, V.ref r.ls) :: [(f, v)]), d2 := [d] }) hr rfl (.inl rfl) (fun b o hb e => ?_) upd_same ?_ ⟨dx, k1, [(f, v)], rfl, h2, h3, hf.symm, .one r', rst⟩ ra.ne) (g.trans g'.g)
  · rw [upd_ne (show b ≠ r.p from fun z => hb (.inl z))]; exact e
  · show upd H' r.p _ r.ls = some (.lst r.xs)
    rw [upd_ne (Ne.symm ra.ne)]; exact ra.l
/-- name.s = list(name2.s), both such instances -/
theorem s_rdcopy (j j2 : Nat) {r r2 : Rd} {y : Str} {np2 fp2 lp : Pos} {f2 : Str} (hr : ρ[j]? = some (.rd r)) (hr2 : ρ[j2]? = some (.rd r2)) (hc : Cls B.X.K r.C) (hn : NoAttr B.X.K r.C f) (nd : (r.f1 ++ r.sf :: r.f2).Nodup) (hf : r.sf = f) (hc2 : Cls B.X.K r2.C) (hn2 : NoAttr B.X.K r2.C f2) (nd2 : (r2.f1 ++ r2.sf :: r2.f2).Nodup) (hf2 : r2.sf = f2) (hl : r.f1.length + r.f2.length < 900)
    (hm : B.X.mg "list" = none) (h : ∀ o l, Tss B (ρ.set j (.rd { r with o := o, ls := l, xs := r2.xs, st := r2.st })) rest D0)
    (hN : B.X.N[j]? = some x := by rfl) (hv : Vis B.X.env.scope x := by first | exact Or.inl rfl | exact Or.inr (Or.inl rfl) | exact Or.inr (Or.inr rfl)) (hd : (x == ("__debug__" : Str)) = false := by decide) (hcd : (x == ("__classdict__" : Str)) = false := by decide)
    (hN2 : B.X.N[j2]? = some y := by rfl) (hv2 : Vis B.X.env.scope y := by first | exact Or.inl rfl | exact Or.inr (Or.inl rfl) | exact Or.inr (Or.inr rfl)) (hd2 : (y == ("__debug__" : Str)) = false := by decide) (hcd2 : (y == ("__classdict__" : Str)) = false := by decide)
    (hb2 : attributeBase (.Name y np2) f2 B.X.env (eval (.Name y np2) B.X.env) = eval (.Name y np2) B.X.env := by rfl) (hg : Gl B.X "list" := by rfl)
    (he : starEach (.Attribute (.Name y np2) f2 fp2 :: []) B.X.env = (false, eval (.Attribute (.Name y np2) f2 fp2) B.X.env) :: starEach [] B.X.env := by rfl) (hpl : (backTo cp (starEach [] B.X.env)).any (·.1) = false := by rfl)
    (hs : swapsWith (.Call (.Name "list" lp) [.Attribute (.Name y np2) f2 fp2] [] cp) (some (.Attribute (.Name x np) f ap)) pos.line B.X.env = pure false := by rfl) :
    Tss B ρ (.Assign [.Attribute (.Name x np) f ap] (.Call (.Name "list" lp) [.Attribute (.Name y np2) f2 fp2] [] cp) pos :: rest) D0 := Tss.of fun kp σ H G s g => by
  subst hf hf2
  obtain ⟨ra, rs, _⟩ := s.rdAt hr
  obtain ⟨ra2, rs2, _⟩ := s.rdAt hr2
  obtain ⟨dx2, kvs2, eo2, hlk2⟩ := ra2.fld nd2
  obtain ⟨dx, k1, k2, h1, h2, h3, h4, h5, rst⟩ := ra.rep.ex
  obtain ⟨_, _, _, _, _, _, _, _, rst2⟩ := ra2.rep.ex
  have n1 : r.sf ∉ k1.map (·.1) := fun z => by
    rw [h2] at z
    exact (List.nodup_append.mp nd).2.2 r.sf z r.sf (.head _) rfl
  have hlen : (k1 ++ (r.sf, V.ref r.ls) :: k2).length < 1000 := by
    have e1 : k1.length = r.f1.length := by rw [← h2, List.length_map]
    have e2 : k2.length = r.f2.length := by rw [← h4, List.length_map]
    rw [List.length_append, List.length_cons, e1, e2]
    omega
  refine ⟨_, ps_fld (pe_var hN hv hd hcd) (pe_callTy (CallR.wk call_list_of) hg hm PySem.Pv.boot_list (pa_cons (pe_fld (pe_var hN2 hv2 hd2 hcd2) hb2) pa_nil he) (by decide) (by decide) he hpl) hs,
    .ref r2.p, rs2, r2.p, r2.C, dx2, kvs2, _, rfl, by rw [ra2.o, eo2], hc2, hn2, hlk2, _, ⟨r2.ls, r2.xs, rfl, .inl (SqL.of ra2.l), fun l hl0 => ?_⟩, fun _ _ z => z⟩
  have hpl2 : r.p ≠ l := fun z => by rw [← z, ra.o] at hl0; cases hl0
  refine ⟨.ref r.p, rs, r.p, r.C, dx, _, rfl, by rw [upd_ne hpl2, ra.o, h1], hc, hn, hlen, ?_⟩
  rw [putF_app n1, putF_hd]
  refine h _ l kp _ _ G (s.rdTo (r' := { r with o := .ins r.C dx (k1 ++ (r.sf, V.ref l) :: k2), ls := l, xs := r2.xs, st := r2.st }) hr rfl (.inr hl0) (fun b o hb e => ?_) upd_same ?_ ⟨dx, k1, k2, rfl, h2, h3, h4, h5, rst2⟩ hpl2) g
  · rw [upd_ne (show b ≠ r.p from fun z => hb (.inl z)), upd_ne (show b ≠ l from fun z => hb (.inr z))]; exact e
  · show upd (upd H l _) r.p _ l = some (.lst r2.xs)
    rw [upd_ne (Ne.symm hpl2), upd_same]
end
/-! ### what such a def promises -/
def rxR (K : PySem.W.Frag) (S : Addr) (M : Md) (G0 H0 : Hp) (R : D → Rd → Prop) : V → Hp → Prop := fun v H' => ∃ d r G', Gr M.W G0 H0 G' H' ∧ M.I G' H' ∧ Rep K S G' v d ∧ RdAt K S M.W H' G' r ∧ R d r
def Ed.rdr (K : PySem.W.Frag) (S : Addr) (M : Md) (G0 H0 : Hp) (R : D → Rd → Prop) : Ed := ⟨fun _ _ H' => rxR K S M G0 H0 R .non H', fun _ => False, rxR K S M G0 H0 R⟩
section
variable {B : Bx} {ρ : List En} {e : Expr} {pos : Pos} {rest : List Stmt} {D0 : Ed}
theorem s_retR (j : Nat) {r : Rd} {R : D → Rd → Prop} (hr : ρ[j]? = some (.rd r)) (hx : D0.rx = rxR B.X.K B.S B.M B.G0 B.H0 R) (h : Tk B ρ e fun d => R d r) : Tss B ρ (.Return (some e) pos :: rest) D0 := Tss.of fun kp σ H G s g =>
  ⟨_, ps_ret pe_W, h.te s fun v d G' H' g' i' r' h' => .inr (by
    have s1 := s.step g' i'
    rw [hx]
    exact ⟨d, r, G', s1.gr, i', r', (s1.rdAt hr).1, h'⟩)⟩
theorem s_fallR (j : Nat) {r : Rd} {R : D → Rd → Prop} (hr : ρ[j]? = some (.rd r)) (h : R .non r) : Tss B ρ [] (Ed.rdr B.X.K B.S B.M B.G0 B.H0 R) := s_nil fun kp σ H G s g =>
  ⟨.non, r, G, s.gr, s.inv, .non, (s.rdAt hr).1, h⟩
end
/-- a promise about such an instance: C what is asked, A the arguments, R what comes and how it stands then, XR what is raised -/
def SpR (K : PySem.W.Frag) (S : Addr) {ι : Type} (M : ι → Md) (C : ι → Rd → Prop) (A : ι → Rd → List D) (R : ι → Rd → D → Rd → Prop) (XR : ι → Rd → Addr → List (Str × D) → Prop) : Sp := fun vs H Q E => ∃ i r G, C i r ∧ Same G H ∧ (M i).I G H ∧ RdAt K S (M i).W H G r ∧ RepAll K S G vs (A i r) ∧
  (∀ v d r' G' H', Gr (M i).W G (less r H) G' H' → (M i).I G' H' → Rep K S G' v d → RdAt K S (M i).W H' G' r' → R i r d r' → Q v H') ∧
  (∀ c fs od G' H', Gr (M i).W G (less r H) G' H' → (M i).I G' H' → Xd K S G' od fs → RdAt K S (M i).W H' G' r → XR i r c fs → E (.ref c) od H')
section
variable {P : Program} {w : World} {K : PySem.W.Frag} {mg : Str → Option Value} {base : Heap}
theorem def_okR {ι : Type} {S : Addr} {M : ι → Md} {C : ι → Rd → Prop} {A : ι → Rd → List D} {R : ι → Rd → D → Rd → Prop} {XR : ι → Rd → Addr → List (Str × D) → Prop} {x qual : Str} {st : Stmt} {f : Addr} {fd : FuncData} {N ps : List Str} {n : Nat} (F : Fun K x qual st f fd)
    (Sc : FnScope N ps (defScope st)) (k : Nat) (len : ∀ i r, (A i r).length = ps.length) (hk : ∀ i r, (A i r)[k]? = some (.ref r.p)) (ρ0 : ι → Rd → List En) (h0 : ∀ i r, ρ0 i r = ((A i r).map En.val).set k (.rd r) ++ List.replicate (N.length - (A i r).length) En.no)
    (body : ∀ (cdv : Value) (Ar : Around) (outer : List Env) (s : Shared) (H : Hp) (E : XK) (i : ι) (r : Rd) (G : Hp), C i r → Room n (Ar.deeper (envOfC qual (defScope st) s.heap.objs.size f cdv)) →
      PassesOwn (model P w) (cxOf (L2.CX P w) P w K mg base N qual (defScope st) f cdv Ar outer s H E).A (cxOf (L2.CX P w) P w K mg base N qual (defScope st) f cdv Ar outer s H E).env (cxOf (L2.CX P w) P w K mg base N qual (defScope st) f cdv Ar outer s H E).xe →
      (∀ c fs od G' H', Gr (M i).W G (less r H) G' H' → (M i).I G' H' → Xd K S G' od fs → RdAt K S (M i).W H' G' r → XR i r c fs → E (.ref c) od H') →
      Tss ⟨cxOf (L2.CX P w) P w K mg base N qual (defScope st) f cdv Ar outer s H E, S, M i, G, less r H⟩ (ρ0 i r) (defBody st) (Ed.rdr K S (M i) G (less r H) (R i r))) :
    FnOk P w K mg base (L2.CX P w) (n + 1) f fd ps (SpR K S M C A R XR) := by
  refine F.okX Sc (fun vs H Q E h => ?_) (fun cdv Ar outer s H vs Q E hr h => ⟨_, pss_W, ?_⟩)
  · obtain ⟨i, r, G, _, _, _, _, ra, _⟩ := h
    rw [ra.length, len i r]
  · obtain ⟨i, r, G, hc, hs, hi, hrd, ra, q, qx⟩ := h
    have hlN : ps.length ≤ N.length := by have := congrArg List.length Sc.pre; rw [List.length_take] at this; omega
    have hlA := ra.length
    have hlp := len i r
    have kl : k < (A i r).length := (List.getElem?_eq_some_iff.mp (hk i r)).1
    have hz : ∀ (j : Nat) (en : En), (ρ0 i r)[j]? = some en → (j = k ∧ en = .rd r) ∨ (j ≠ k ∧ ((∃ d, en = .val d ∧ (A i r)[j]? = some d) ∨ en = .no)) := fun j en hj => by
      rw [h0 i r] at hj
      by_cases hjl : j < (A i r).length
      · rw [List.getElem?_append_left (by rw [List.length_set, List.length_map]; exact hjl)] at hj
        by_cases hjk : k = j
        · subst hjk
          rw [List.getElem?_set_self (by rw [List.length_map]; exact kl)] at hj
          exact .inl ⟨rfl, (Option.some.inj hj).symm⟩
        · rw [List.getElem?_set_ne hjk, List.getElem?_map] at hj
          obtain ⟨d, hd, rfl⟩ := Option.map_eq_some_iff.mp hj
          exact .inr ⟨fun z => hjk z.symm, .inl ⟨d, rfl, hd⟩⟩
      · rw [List.getElem?_append_right (by rw [List.length_set, List.length_map]; omega), List.getElem?_replicate] at hj
        split at hj
        · exact .inr ⟨by omega, .inr (Option.some.inj hj).symm⟩
        · cases hj
    obtain ⟨v0, hv0, rv0⟩ := ra.get (hk i r)
    obtain rfl := rv0.refI
    have s0 : StOk ⟨cxOf (L2.CX P w) P w K mg base N qual (defScope st) f cdv Ar outer s H E, S, M i, G, less r H⟩ (ρ0 i r) (L2.start N vs) H G := by
      refine ⟨⟨.refl _, hs, fun b o _ e => (less_some e).2, fun b o _ n => n⟩, hi, ?_, fun j d hd => ?_, fun j q1 d hd => ?_, fun a b q1 r1 d e p h1 _ _ _ => ?_, ⟨fun j r2 hd => ?_, fun j j2 r1 r2 h1 h2 hij b hb => ?_, fun j j2 r1 q1 d x h1 h2 _ => ?_⟩⟩
      · rw [h0 i r]
        unfold L2.start
        rw [List.length_append, List.length_append, List.length_map, List.length_set, List.length_map, List.length_replicate, List.length_replicate]
        omega
      · rcases hz j _ hd with ⟨_, z⟩ | ⟨_, ⟨d', z, h1⟩ | z⟩
        · cases z
        · cases z
          obtain ⟨v, hv, rv⟩ := ra.get h1
          have hjl := (List.getElem?_eq_some_iff.mp h1).1
          exact ⟨v, by rw [start_get (by omega), hv]; rfl, rv⟩
        · cases z
      · rcases hz j _ hd with ⟨_, z⟩ | ⟨_, ⟨d', z, _⟩ | z⟩ <;> cases z
      · rcases hz a _ h1 with ⟨_, z⟩ | ⟨_, ⟨d', z, _⟩ | z⟩ <;> cases z
      · rcases hz j _ hd with ⟨rfl, z⟩ | ⟨_, ⟨d', z, _⟩ | z⟩
        · cases z
          exact ⟨by rw [start_get (by omega), hv0]; rfl, hrd.o, hrd.l, hrd.rep, hrd.ne, fun b hb => ⟨(hrd.fr b hb).1, less_has hb, (hrd.fr b hb).2⟩⟩
        · cases z
        · cases z
      · rcases hz j _ h1 with ⟨rfl, z⟩ | ⟨_, ⟨d', z, _⟩ | z⟩
        · rcases hz j2 _ h2 with ⟨rfl, z2⟩ | ⟨_, ⟨d', z2, _⟩ | z2⟩
          · exact absurd rfl hij
          · cases z2
          · cases z2
        · cases z
        · cases z
      · rcases hz j2 _ h2 with ⟨_, z⟩ | ⟨_, ⟨d', z, _⟩ | z⟩ <;> cases z
    have fin : ∀ v H', rxR K S (M i) G (less r H) (R i r) v H' → Q v H' := fun v H' ⟨d, r', G', g, j, rd, rr, hR⟩ => q v d r' G' H' g j rd rr hR
    exact tWS_mono (body cdv Ar outer s H E i r G hc hr (passes_of rfl) qx G (L2.start N vs) H G s0 (.refl _)) (fun _ H' z => fin _ H' z) (fun v H' z => by
      rcases z with ⟨_, _, _, _, _, z⟩ | z
      · exact z.elim
      · exact fin v H' z) (fun _ _ z => z.elim) (fun _ _ z => z.elim)
end
end Fz
/-! .. calls with such an instance -/
namespace Fz
open PySem PySem.Spec PyProof.Rows L2
theorem Gr.full {K : PySem.W.Frag} {S : Addr} {W : Addr → Prop} {H G H' G' : Hp} {r : Rd} (a : RdAt K S W H G r) (b : RdAt K S W H' G' r) (g : Gr W G (less r H) G' H') : Gr W G H G' H' := by
  refine ⟨g.g, g.s, fun x o w e => ?_, fun x o e n => ?_⟩
  · by_cases hx : r.has x
    · rcases hx with rfl | rfl
      · rw [a.o] at e; rw [b.o]; exact e
      · rw [a.l] at e; rw [b.l]; exact e
    · exact g.h x o w (by rw [less_ne hx]; exact e)
  · by_cases hx : r.has x
    · exact (b.fr x hx).1
    · exact g.d x o (by rw [less_ne hx]; exact e) n
theorem Sub.w {M N : Md} (h : Sub M N) {b : Addr} (w : M.W b) : N.W b := by
  rcases h with rfl | rfl
  · exact w.elim
  · exact w
section
variable {B : Bx} {ρ : List En} {σ : L2.St} {H G H' G' H1 G1 : Hp} {r r' : Rd} {M : Md}
theorem StOk.rdSub (s : StOk B ρ σ H G) {j : Nat} (hj : ρ[j]? = some (.rd r)) (sb : Sub M B.M) : RdAt B.X.K B.S M.W H G r := by
  obtain ⟨ra, _⟩ := s.rdAt hj
  exact ⟨ra.o, ra.l, ra.rep, ra.ne, fun b hb => ⟨(ra.fr b hb).1, fun w => (ra.fr b hb).2 (sb.w w)⟩⟩
/-- behind a call that changed it -/
theorem StOk.afterRd (s1 : StOk B ρ σ H1 G1) {j : Nat} (hj : ρ[j]? = some (.rd r)) (sb : Sub M B.M) (g : Gr M.W G1 (less r H1) G' H') (i' : M.I G' H') (ra : RdAt B.X.K B.S M.W H' G' r') (hp : r'.p = r.p) (hl : r'.ls = r.ls) : StOk B (ρ.set j (.rd r')) σ H' G' := by
  have hh : ∀ b, r'.has b ↔ r.has b := fun b => by
    unfold Rd.has
    rw [hp, hl]
  have hfr : ∀ b, r.has b → G' b = none ∧ ¬ M.W b := fun b hb => ra.fr b ((hh b).mpr hb)
  have hs : Same G' (fun b => if r.p = b ∨ r.ls = b then H1 b else H' b) := fun b o e => by
    show (if r.p = b ∨ r.ls = b then H1 b else H' b) = some o
    rw [if_neg (fun z => by rw [(hfr b (z.imp Eq.symm Eq.symm)).1] at e; cases e)]
    exact g.s b o e
  have g2 : Gr M.W G1 H1 G' (fun b => if r.p = b ∨ r.ls = b then H1 b else H' b) := by
    refine ⟨g.g, hs, fun b o w e => ?_, fun b o e n => ?_⟩
    · show (if r.p = b ∨ r.ls = b then H1 b else H' b) = some o
      by_cases hb : r.p = b ∨ r.ls = b
      · rw [if_pos hb]; exact e
      · rw [if_neg hb]
        exact g.h b o w (by rw [less_ne fun z => hb (z.imp Eq.symm Eq.symm)]; exact e)
    · by_cases hb : r.has b
      · exact (hfr b hb).1
      · exact g.d b o (by rw [less_ne hb]; exact e) n
  have i2 : M.I G' (fun b => if r.p = b ∨ r.ls = b then H1 b else H' b) := M.st i' (.refl _) hs (fun b w => (M.nn i' w).1) fun b o w e => by
    show (if r.p = b ∨ r.ls = b then H1 b else H' b) = some o
    rw [if_neg (fun z => (hfr b (z.imp Eq.symm Eq.symm)).2 w)]
    exact e
  obtain ⟨g3, i3⟩ := sb.up s1.inv g2 i2
  refine (s1.step g3 i3).rdTo hj hp (.inl hl) (fun b o hb e => ?_) ra.o ra.l ra.rep ra.ne
  have e : (if r.p = b ∨ r.ls = b then H1 b else H' b) = some o := e
  rw [if_neg (fun z => hb ((hh b).mpr (z.imp Eq.symm Eq.symm)))] at e
  exact e
end
/-! ### an expression that changes slots -/
def TkR (B : Bx) (ρ : List En) (e : Expr) (k : D → List En → Prop) : Prop := ∀ σ H G, StOk B ρ σ H G → tW B.X e σ H fun v H' => ∃ d G' ρ', StOk B ρ' σ H' G' ∧ Same G G' ∧ Rep B.X.K B.S G' v d ∧ k d ρ'
def TtR (B : Bx) (ρ : List En) (e : Expr) (k : Bool → List En → Prop) : Prop := ∀ σ H G, StOk B ρ σ H G → tWT B.X e σ H fun b H' => ∃ G' ρ', StOk B ρ' σ H' G' ∧ Same G G' ∧ k b ρ'
def TwR (B : Bx) (ρ : List En) (e : Expr) (k : Bool → List En → Prop) : Prop := ∀ σ H G, StOk B ρ σ H G → tWW B.X e σ H fun b H' => ∃ G' ρ', StOk B ρ' σ H' G' ∧ Same G G' ∧ k b ρ'
section
variable {B : Bx} {ρ : List En} {a b c e : Expr} {es : List Expr} {k : D → List En → Prop} {x y f m : Str} {pos p p' ap np cp apos : Pos} {rest body orelse : List Stmt} {D0 : Ed}
theorem TkR.te (h : TkR B ρ e k) {σ : L2.St} {H G : Hp} (s : StOk B ρ σ H G) {Q : VK} (q : ∀ v d G' H' ρ', StOk B ρ' σ H' G' → Same G G' → Rep B.X.K B.S G' v d → k d ρ' → Q v H') : tW B.X e σ H Q := fun pins s0 I =>
  thn (h σ H G s pins s0 I) fun _ _ ⟨v, H', I', r, d, G', ρ', st, g, rp, kd⟩ => ⟨v, H', I', r, q v d G' H' ρ' st g rp kd⟩
theorem TtR.tt {k : Bool → List En → Prop} (h : TtR B ρ e k) {σ : L2.St} {H G : Hp} (s : StOk B ρ σ H G) {Q : Bool → Hp → Prop} (q : ∀ b G' H' ρ', StOk B ρ' σ H' G' → Same G G' → k b ρ' → Q b H') : tWT B.X e σ H Q := fun pins s0 I =>
  thn (h σ H G s pins s0 I) fun b _ ⟨H', I', G', ρ', st, g, kd⟩ => ⟨H', I', q b G' H' ρ' st g kd⟩
theorem TwR.te {k : Bool → List En → Prop} (h : TwR B ρ e k) {σ : L2.St} {H G : Hp} (s : StOk B ρ σ H G) {Q : Bool → Hp → Prop} (q : ∀ b G' H' ρ', StOk B ρ' σ H' G' → Same G G' → k b ρ' → Q b H') : tWW B.X e σ H Q := fun wh pins s0 I =>
  thn (h σ H G s wh pins s0 I) fun b _ ⟨H', I', G', ρ', st, g, kd⟩ => ⟨H', I', q b G' H' ρ' st g kd⟩
theorem TkR.of (h : ∀ σ H G, StOk B ρ σ H G → ∃ t : TE, PE B.X e t ∧ t σ H fun v H' => ∃ d G' ρ', StOk B ρ' σ H' G' ∧ Same G G' ∧ Rep B.X.K B.S G' v d ∧ k d ρ') : TkR B ρ e k := fun σ H G s pins s0 I => by
  obtain ⟨t, p, q⟩ := h σ H G s
  exact p.run pins s0 σ H _ I q
theorem Tk.r (h : Tk B ρ e fun d => k d ρ) : TkR B ρ e k := fun σ H G s => h.te s fun v d G' H' g i r hk => ⟨d, G', ρ, s.step g i, g.g, r, hk⟩
theorem Tt.r {k : Bool → List En → Prop} (h : Tt B ρ e fun b => k b ρ) : TtR B ρ e k := fun σ H G s => h.tt s fun b G' H' g i hk => ⟨G', ρ, s.step g i, g.g, hk⟩
theorem Tw.r {k : Bool → List En → Prop} (h : Tw B ρ e fun b => k b ρ) : TwR B ρ e k := fun σ H G s => h.te s fun b G' H' g i hk => ⟨G', ρ, s.step g i, g.g, hk⟩
/-- a op b, a changing -/
theorem tkr_cmp {op : CmpOp} {o : D → D → (D → Prop) → Prop} (ho : OpD B (compareOp op) o) (h : TkR B ρ a fun x ρ' => Tk B ρ' b fun y => o x y fun d => k d ρ') (hm : behindInMarks op b = false := by first | exact nomark _ | rfl | with_unfolding_all rfl) :
    TkR B ρ (.Compare a [op] [b] pos) k := fun σ H G s pins s0 I => by
  refine wpAny_Compare1 (thn (h σ H G s pins s0 I) fun u s1 ⟨v, H1, I1, rv, d, G1, ρ', st1, gg, r1, h1⟩ => ?_) hm
  refine thn (h1 σ H1 G1 st1 pins s1 I1) fun u' s2 ⟨v', H2, I2, rv', d', G2, g2, i2, r2, h2⟩ => ?_
  have st2 := st1.step g2 i2
  exact thn (ho d d' _ h2 v v' G2 H2 st2.gr.s i2 (r1.mono g2.g) r2 pins σ s2 I2 u u' rv rv') fun z s3 ⟨v3, H3, I3, r3, d3, G3, g3, i3, rp3, hk⟩ => ⟨v3, H3, I3, r3, d3, G3, ρ', st2.step g3 i3, (gg.trans g2.g).trans g3.g, rp3, hk⟩
theorem ttr_cmp {op : CmpOp} {o : D → D → (D → Prop) → Prop} {k : Bool → List En → Prop} (ho : OpD B (compareOp op) o) (h : TkR B ρ a fun x ρ' => Tk B ρ' b fun y => o x y (kB fun t => k t ρ')) (hm : behindInMarks op b = false := by first | exact nomark _ | rfl | with_unfolding_all rfl) :
    TtR B ρ (.Compare a [op] [b] pos) k := fun σ H G s pins s0 I => by
  refine wpAny_isTrue_Compare1 (thn (h σ H G s pins s0 I) fun u s1 ⟨v, H1, I1, rv, d, G1, ρ', st1, gg, r1, h1⟩ => ?_) hm
  refine thn (h1 σ H1 G1 st1 pins s1 I1) fun u' s2 ⟨v', H2, I2, rv', d', G2, g2, i2, r2, h2⟩ => ?_
  have st2 := st1.step g2 i2
  refine thn (ho d d' _ h2 v v' G2 H2 st2.gr.s i2 (r1.mono g2.g) r2 pins σ s2 I2 u u' rv rv') fun z s3 ⟨v3, H3, I3, r3, d3, G3, g3, i3, rp3, q3⟩ => ?_
  cases d3 with
  | bl c =>
    have e := rp3.blI
    subst e
    cases r3
    exact wpAny_truthy_bool ⟨H3, I3, G3, ρ', st2.step g3 i3, (gg.trans g2.g).trans g3.g, q3⟩
  | _ => exact q3.elim
theorem ttr_of {k : Bool → List En → Prop} (h : TwR B ρ e k) : TtR B ρ e k := fun σ H G s pins s0 I => h σ H G s _ pins s0 I
theorem twr_or {b2 : List Expr} {k : Bool → List En → Prop} (h : TtR B ρ a fun c ρ' => cB c (k true ρ') (TwR B ρ' (.BoolOp .Or (b :: b2) pos) k)) : TwR B ρ (.BoolOp .Or (a :: b :: b2) pos) k := fun σ H G s wh pins s0 I => by
  refine (pw_or pt_W pw_W).run wh pins s0 σ H _ I (h.tt s fun c G1 H1 ρ' st1 g1 h1 => ?_)
  cases c with
  | false =>
    rw [if_neg Bool.false_ne_true]
    exact TwR.te h1 st1 fun c2 G2 H2 ρ2 st2 g2 h2 => ⟨G2, ρ2, st2, g1.trans g2, h2⟩
  | true =>
    rw [if_pos rfl]
    exact ⟨G1, ρ', st1, g1, h1⟩
theorem twr_or1 {k : Bool → List En → Prop} (h : TtR B ρ a k) : TwR B ρ (.BoolOp .Or [a] pos) k := fun σ H G s wh pins s0 I => (pw_or1 pt_W).run wh pins s0 σ H _ I (h σ H G s)
/-- [a, b], a changing -/
theorem tkr_lst2 (h : TkR B ρ a fun x ρ' => Tk B ρ' b fun y => k (.lst [x, y]) ρ') (he : starEach [a, b] B.X.env = (false, eval a B.X.env) :: starEach [b] B.X.env := by rfl) (he2 : starEach [b] B.X.env = (false, eval b B.X.env) :: starEach [] B.X.env := by rfl) : TkR B ρ (.List [a, b] pos) k := TkR.of fun σ H G s =>
  ⟨_, pe_lst (pa_cons pe_W (pa_cons pe_W pa_nil he2) he), h.te s fun v d G1 H1 ρ' st1 g1 r1 h1 => h1.te st1 fun v2 d2 G2 H2 g2 i2 r2 h2 => ⟨by show 2 ≤ sizeLine; decide, fun q n => by
    have st2 := st1.step g2 i2
    obtain ⟨gn, inn⟩ := (Gr.new (o := .lst [v, v2]) st2.gr.s n).up st2.inv
    exact ⟨_, _, ρ', st2.step gn inn, (g1.trans g2.g).trans gn.g, .obj upd_same (.lst (.cons ((r1.mono g2.g).mono gn.g) (.cons (r2.mono gn.g) .nil))), h2⟩⟩⟩
/-! statements -/
theorem s_exprR (h : TkR B ρ e fun _ ρ' => Tss B ρ' rest D0) (hs : swapsWith e none pos.line B.X.env = pure false := by rfl) : Tss B ρ (.Expr e pos :: rest) D0 := Tss.of fun kp σ H G s g =>
  ⟨_, ps_expr pe_W hs, h.te s fun v d G' H' ρ' st gg r' h' => h' kp _ _ G' st (g.trans gg)⟩
theorem s_ifR (h : TtR B ρ c fun t ρ' => cB t (Tss B ρ' body (D0.thn B rest)) (Tss B ρ' orelse (D0.thn B rest))) : Tss B ρ (.If c body orelse pos :: rest) D0 := Tss.of fun kp σ H G s g =>
  ⟨_, ps_if pt_W pss_W pss_W, h.tt s fun t G' H' ρ' st gg h' => by
    cases t with
    | true =>
      rw [if_pos rfl]
      exact (show Tss B ρ' body (D0.thn B rest) from h') kp _ _ G' st (g.trans gg)
    | false =>
      rw [if_neg Bool.false_ne_true]
      exact (show Tss B ρ' orelse (D0.thn B rest) from h') kp _ _ G' st (g.trans gg)⟩
/-- return e, e changing the instance in slot j that the caller gave -/
theorem s_retRR (j : Nat) {R : D → Rd → Prop} (hx : D0.rx = rxR B.X.K B.S B.M B.G0 B.H0 R) (h : TkR B ρ e fun d ρ' => ∃ r, ρ'[j]? = some (.rd r) ∧ R d r) : Tss B ρ (.Return (some e) pos :: rest) D0 := Tss.of fun kp σ H G s g =>
  ⟨_, ps_ret pe_W, h.te s fun v d G' H' ρ' st gg r' ⟨r, hr, hR⟩ => .inr (by
    rw [hx]
    exact ⟨d, r, G', st.gr, st.inv, r', (st.rdAt hr).1, hR⟩)⟩
/-- return e, e changing an own instance -/
theorem s_retRO (h : TkR B ρ e fun d _ => D0.rt d) : Tss B ρ (.Return (some e) pos :: rest) D0 := Tss.of fun kp σ H G s g =>
  ⟨_, ps_ret pe_W, h.te s fun v d G' H' ρ' st gg r' hR => .inl ⟨d, G', st.gr, st.inv, r', hR⟩⟩
/-- (x, y) = e, e a list of two -/
theorem s_unpLR (is : List Nat) {kt pt} (h : TkR B ρ e fun d ρ' => kLst is.length (fun ds => Tss B (putAll ρ' is ds) rest D0) d) (hg : PGs B.X es (gNames is)) (hc : B.X.calm = true)
    (hn : (assignEach es B.X.env).length = is.length := by rfl) (hst : (assignEach es B.X.env).findIdx? (·.1) = none := by rfl)
    (hs : swapsWithSole [.Tuple es kt pt] e pos.line B.X.env = pure false := by rfl) (hw : swappedStores [.Tuple es kt pt] e B.X.env = pure none := by rfl)
    (h1 : (assignEach [.Tuple es kt pt] B.X.env).map (·.2) = [assign (.Tuple es kt pt) B.X.env] := by rfl) : Tss B ρ (.Assign [.Tuple es kt pt] e pos :: rest) D0 := Tss.of fun kp σ H G s g =>
  ⟨_, ps_asg pe_W (pg_lst hc hg hn hst) hs hw h1, h.te s fun v d G' H' ρ' st gg r' h' => by
    cases d with
    | lst ds =>
      obtain ⟨hl, hk⟩ := h'
      obtain ⟨a, xs, rfl, hx, ra⟩ := r'.lstI
      exact ⟨a, xs, rfl, .inl (.inl (st.gr.s _ _ hx)), by rw [ra.length]; exact hl, gNames_run st ra hl fun σ' s' => hk kp σ' _ G' s' (g.trans gg)⟩
    | _ => exact h'.elim⟩
/-- the name of such a slot -/
theorem tk_vr (j : Nat) {r : Rd} {k : D → Prop} (hr : ρ[j]? = some (.rd r)) (h : k (.ref r.p)) (hN : B.X.N[j]? = some x := by rfl) (hv : Vis B.X.env.scope x := by first | exact Or.inl rfl | exact Or.inr (Or.inl rfl) | exact Or.inr (Or.inr rfl)) (hd : (x == ("__debug__" : Str)) = false := by decide) (hcd : (x == ("__classdict__" : Str)) = false := by decide) : Tk B ρ (.Name x pos) k := Tk.of fun σ H G s =>
  ⟨_, pe_var hN hv hd hcd, .ref r.p, (s.rdAt hr).2.1, .now s (.ref r.p) h⟩
end
/-! ### who promises -/
section
variable (P : Program) (w : World) (K : PySem.W.Frag) (mg : Str → Option Value) (base : Heap) (S : Addr)
structure KnF (x : Str) (n : Nat) {ι : Type} (M : ι → Md) (C : ι → Rd → Prop) (A : ι → Rd → List D) (R : ι → Rd → D → Rd → Prop) (XR : ι → Rd → Addr → List (Str × D) → Prop) : Prop where
  ex : ∃ f fd ps, mg x = some (.ref f) ∧ PySem.W.keepIn K (.ref f) = true ∧ Binds K fd ps [] ∧ FnOk P w K mg base (L2.CX P w) n f fd ps (SpR K S M C A R XR)
structure KnN (m : Str) (n : Nat) (CR : Addr) {ι : Type} (M : ι → Md) (C : ι → Rd → Prop) (A : ι → Rd → List D) (R : ι → Rd → D → Rd → Prop) (XR : ι → Rd → Addr → List (Str × D) → Prop) : Prop where
  ex : ∃ f fd ps, Meth K CR m f ∧ Binds K fd ps [] ∧ FnOk P w K mg base (L2.CX P w) n f fd ps (SpR K S M C A R XR)
structure KnH (m : Str) (n : Nat) (CR : Addr) {ι : Type} (M : ι → Md) (C : ι → Rd → Prop) (A : ι → Rd → List D) (R : ι → Rd → D → Rd → Prop) : Prop where
  ex : ∃ p g fd ps, PropOf K CR m p g ∧ Binds K fd ps [] ∧ FnOk P w K mg base (L2.CX P w) n g fd ps (SpR K S M C A R (fun _ _ _ _ => False))
end
section
variable {B : Bx} {ρ : List En} {e : Expr} {es : List Expr} {x y f m : Str} {pos p np apos : Pos} {ι : Type} {M : ι → Md} {C : ι → Rd → Prop} {A : ι → Rd → List D} {R : ι → Rd → D → Rd → Prop} {XR : ι → Rd → Addr → List (Str × D) → Prop} {n : Nat} {CR : Addr}
/-- f(e, ..), the instance of slot j among them, changed -/
theorem tkr_fn (j : Nat) {r : Rd} {k : D → List En → Prop} (F : KnF B.X.prog B.X.w B.X.K B.X.mg B.X.base B.S x n M C A R XR) {rm : Nat} (hr : Room rm B.X.A) (hj : ρ[j]? = some (.rd r))
    (h : Ta B ρ (e :: es) fun ds => ∃ i, ds = A i r ∧ C i r ∧ Sub (M i) B.M ∧ (∀ c fs, ¬ XR i r c fs) ∧ ∀ d r', R i r d r' → r'.p = r.p ∧ r'.ls = r.ls ∧ k d (ρ.set j (.rd r'))) (hg : Gl B.X x := by rfl)
    (hdb : (x == ("__debug__" : Str)) = false := by decide) (he : starEach (e :: es) B.X.env = (false, eval e B.X.env) :: starEach es B.X.env := by rfl) (hpl : (backTo pos (starEach es B.X.env)).any (·.1) = false := by rfl) (hrm : n ≤ rm := by decide) :
    TkR B ρ (.Call (.Name x p) (e :: es) [] pos) k := TkR.of fun σ H G s => by
  obtain ⟨f, fd, ps, hm, hk, hb, F⟩ := F.ex
  refine ⟨_, pe_call F (hr.mono hrm) hg hm hk hb .nil passX0 pa_W hdb he hpl, h.ta s fun vs ds G1 H1 g1 i1 r1 h1 => ?_⟩
  obtain ⟨i, rfl, ci, sb, nx, q⟩ := h1
  have s1 := s.step g1 i1
  rw [List.append_nil]
  refine ⟨i, r, G1, ci, s1.gr.s, sb.inn i1, s1.rdSub hj sb, r1, fun v d r' G' H' g i' rd ra hR => ?_, fun c fs od G' H' g _ _ _ z => nx c fs z⟩
  obtain ⟨e1, e2, hkk⟩ := q d r' hR
  exact ⟨d, G', _, s1.afterRd hj sb g i' ra e1 e2, g1.g.trans g.g, rd, hkk⟩
/-- .. not changed -/
theorem tk_fnG (j : Nat) {r : Rd} {k : D → Prop} (F : KnF B.X.prog B.X.w B.X.K B.X.mg B.X.base B.S x n M C A R XR) {rm : Nat} (hr : Room rm B.X.A) (hj : ρ[j]? = some (.rd r))
    (h : Ta B ρ (e :: es) fun ds => ∃ i, ds = A i r ∧ C i r ∧ Sub (M i) B.M ∧ (∀ c fs, ¬ XR i r c fs) ∧ ∀ d r', R i r d r' → r' = r ∧ k d) (hg : Gl B.X x := by rfl)
    (hdb : (x == ("__debug__" : Str)) = false := by decide) (he : starEach (e :: es) B.X.env = (false, eval e B.X.env) :: starEach es B.X.env := by rfl) (hpl : (backTo pos (starEach es B.X.env)).any (·.1) = false := by rfl) (hrm : n ≤ rm := by decide) :
    Tk B ρ (.Call (.Name x p) (e :: es) [] pos) k := Tk.of fun σ H G s => by
  obtain ⟨f, fd, ps, hm, hk, hb, F⟩ := F.ex
  refine ⟨_, pe_call F (hr.mono hrm) hg hm hk hb .nil passX0 pa_W hdb he hpl, h.ta s fun vs ds G1 H1 g1 i1 r1 h1 => ?_⟩
  obtain ⟨i, rfl, ci, sb, nx, q⟩ := h1
  have s1 := s.step g1 i1
  rw [List.append_nil]
  have rs := s1.rdSub hj sb
  refine ⟨i, r, G1, ci, s1.gr.s, sb.inn i1, rs, r1, fun v d r' G' H' g i' rd ra hR => ?_, fun c fs od G' H' g _ _ _ z => nx c fs z⟩
  obtain ⟨e1, hkk⟩ := q d r' hR
  subst e1
  obtain ⟨g', j'⟩ := sb.up i1 (Gr.full rs ra g) i'
  exact .back i1 g1 ⟨d, G', g', j', rd, hkk⟩
/-- name.m(e, ..), changed -/
theorem tkr_meth (j : Nat) {r : Rd} {k : D → List En → Prop} {pl : Sem Bool} (F : KnN B.X.prog B.X.w B.X.K B.X.mg B.X.base B.S m n CR M C A R XR) (c : Cls B.X.K CR) {rm : Nat} (hr : Room rm B.X.A) (hj : ρ[j]? = some (.rd r)) (hC : r.C = CR) (nm : m ∉ r.f1 ++ r.sf :: r.f2)
    (h : Ta B ρ (e :: es) fun ds => ∃ i, D.ref r.p :: ds = A i r ∧ C i r ∧ Sub (M i) B.M ∧ (∀ c fs, ¬ XR i r c fs) ∧ ∀ d r', R i r d r' → r'.p = r.p ∧ r'.ls = r.ls ∧ k d (ρ.set j (.rd r')))
    (hN : B.X.N[j]? = some x := by rfl) (hv : Vis B.X.env.scope x := by first | exact Or.inl rfl | exact Or.inr (Or.inl rfl) | exact Or.inr (Or.inr rfl)) (hd : (x == ("__debug__" : Str)) = false := by decide) (hcd : (x == ("__classdict__" : Str)) = false := by decide)
    (hrm : n ≤ rm := by decide) (hst : starEach (e :: es) B.X.env = (false, eval e B.X.env) :: starEach es B.X.env := by rfl) (hpl : (backTo pos (starEach es B.X.env)).any (·.1) = false := by rfl)
    (ht : eval (.Call (.Attribute (.Name x np) m apos) (e :: es) [] pos) B.X.env = (do
      let ov ← eval (.Name x np) B.X.env
      standAt apos.atName
      let (f, first) ← holding [ov] (getMethod ov m pl)
      callWith pos f first (backTo pos (starEach (e :: es) B.X.env)) (backToKw pos (keywordEach [] B.X.env))) := by rfl) :
    TkR B ρ (.Call (.Attribute (.Name x np) m apos) (e :: es) [] pos) k := TkR.of fun σ H G s => by
  obtain ⟨f, fd, ps, hm, hb, F⟩ := F.ex
  obtain ⟨ra0, rs0, _⟩ := s.rdAt hj
  obtain ⟨dx, kvs, eo, ek, rk⟩ := ra0.rep.all
  refine ⟨_, pe_meth (pe_var hN hv hd hcd) c hm F (hr.mono hrm) hb .nil passX0 pa_W hst hpl ht, .ref r.p, rs0, r.p, dx, kvs, rfl, by rw [ra0.o, eo, hC], lookup_none (by rw [ek]; exact nm), h.ta s fun vs ds G1 H1 g1 i1 r1 h1 => ?_⟩
  obtain ⟨i, ei, ci, sb, nx, q⟩ := h1
  have s1 := s.step g1 i1
  rw [List.append_nil]
  refine ⟨i, r, G1, ci, s1.gr.s, sb.inn i1, s1.rdSub hj sb, by rw [← ei]; exact .cons (.ref r.p) r1, fun v d r' G' H' g i' rd ra hR => ?_, fun c fs od G' H' g _ _ _ z => nx c fs z⟩
  obtain ⟨e1, e2, hkk⟩ := q d r' hR
  exact ⟨d, G', _, s1.afterRd hj sb g i' ra e1 e2, g1.g.trans g.g, rd, hkk⟩
/-- name.m(), changed -/
theorem tkr_meth0 (j : Nat) {r : Rd} {k : D → List En → Prop} {pl : Sem Bool} (F : KnN B.X.prog B.X.w B.X.K B.X.mg B.X.base B.S m n CR M C A R XR) (c : Cls B.X.K CR) {rm : Nat} (hr : Room rm B.X.A) (hj : ρ[j]? = some (.rd r)) (hC : r.C = CR) (nm : m ∉ r.f1 ++ r.sf :: r.f2)
    (h : ∃ i, [D.ref r.p] = A i r ∧ C i r ∧ Sub (M i) B.M ∧ (∀ c fs, ¬ XR i r c fs) ∧ ∀ d r', R i r d r' → r'.p = r.p ∧ r'.ls = r.ls ∧ k d (ρ.set j (.rd r')))
    (hN : B.X.N[j]? = some x := by rfl) (hv : Vis B.X.env.scope x := by first | exact Or.inl rfl | exact Or.inr (Or.inl rfl) | exact Or.inr (Or.inr rfl)) (hd : (x == ("__debug__" : Str)) = false := by decide) (hcd : (x == ("__classdict__" : Str)) = false := by decide)
    (hrm : n ≤ rm := by decide)
    (ht : eval (.Call (.Attribute (.Name x np) m apos) [] [] pos) B.X.env = (do
      let ov ← eval (.Name x np) B.X.env
      standAt apos.atName
      let (f, first) ← holding [ov] (getMethod ov m pl)
      callWith pos f first (backTo pos (starEach [] B.X.env)) (backToKw pos (keywordEach [] B.X.env))) := by rfl) :
    TkR B ρ (.Call (.Attribute (.Name x np) m apos) [] [] pos) k := TkR.of fun σ H G s => by
  obtain ⟨f, fd, ps, hm, hb, F⟩ := F.ex
  obtain ⟨ra0, rs0, _⟩ := s.rdAt hj
  obtain ⟨dx, kvs, eo, ek, rk⟩ := ra0.rep.all
  refine ⟨_, pe_meth0 (pe_var hN hv hd hcd) c hm F (hr.mono hrm) hb .nil passX0 ht, .ref r.p, rs0, r.p, dx, kvs, rfl, by rw [ra0.o, eo, hC], lookup_none (by rw [ek]; exact nm), ?_⟩
  obtain ⟨i, ei, ci, sb, nx, q⟩ := h
  refine ⟨i, r, G, ci, s.gr.s, sb.inn s.inv, s.rdSub hj sb, by rw [← ei]; exact .one (.ref r.p), fun v d r' G' H' g i' rd ra hR => ?_, fun c fs od G' H' g _ _ _ z => nx c fs z⟩
  obtain ⟨e1, e2, hkk⟩ := q d r' hR
  exact ⟨d, G', _, s.afterRd hj sb g i' ra e1 e2, g.g, rd, hkk⟩
/-- name.f, a property -/
theorem tk_propR (j : Nat) {r : Rd} {k : D → Prop} (F : KnH B.X.prog B.X.w B.X.K B.X.mg B.X.base B.S m n CR M C A R) (c : Cls B.X.K CR) {rm : Nat} (hr : Room rm B.X.A) (hj : ρ[j]? = some (.rd r)) (hC : r.C = CR)
    (h : ∃ i, [D.ref r.p] = A i r ∧ C i r ∧ Sub (M i) B.M ∧ ∀ d r', R i r d r' → r' = r ∧ k d)
    (hN : B.X.N[j]? = some x := by rfl) (hv : Vis B.X.env.scope x := by first | exact Or.inl rfl | exact Or.inr (Or.inl rfl) | exact Or.inr (Or.inr rfl)) (hd : (x == ("__debug__" : Str)) = false := by decide) (hcd : (x == ("__classdict__" : Str)) = false := by decide)
    (hrm : n + 1 ≤ rm := by decide) (hab : attributeBase (.Name x np) m B.X.env (eval (.Name x np) B.X.env) = eval (.Name x np) B.X.env := by rfl) : Tk B ρ (.Attribute (.Name x np) m pos) k := Tk.of fun σ H G s => by
  obtain ⟨p, g, fd, ps, hp, hb, F⟩ := F.ex
  obtain ⟨ra0, rs0, _⟩ := s.rdAt hj
  obtain ⟨dx, kvs, eo, ek, rk⟩ := ra0.rep.all
  refine ⟨_, pe_prop (pe_var hN hv hd hcd) c hp F (hr.mono hrm) hb .nil passX0 hab, .ref r.p, rs0, r.p, dx, kvs, rfl, by rw [ra0.o, eo, hC], ?_⟩
  obtain ⟨i, ei, ci, sb, q⟩ := h
  have rs := s.rdSub hj sb
  refine ⟨i, r, G, ci, s.gr.s, sb.inn s.inv, rs, by rw [← ei]; exact .one (.ref r.p), fun v d r' G' H' g i' rd ra hR => ?_, fun c fs od G' H' g _ _ _ z => z.elim⟩
  obtain ⟨e1, hkk⟩ := q d r' hR
  subst e1
  obtain ⟨g', j'⟩ := sb.up s.inv (Gr.full rs ra g) i'
  exact ⟨d, G', g', j', rd, hkk⟩
/-- name.m(e, ..) that raises, nothing changed -/
theorem tk_methRX (j : Nat) {r : Rd} {k : D → Prop} {pl : Sem Bool} {YR : Addr → List (Str × D) → Prop} (F : KnN B.X.prog B.X.w B.X.K B.X.mg B.X.base B.S m n CR M C A R XR) (c : Cls B.X.K CR) {rm : Nat} (hr : Room rm B.X.A) (rz : Rz B ρ YR) (hj : ρ[j]? = some (.rd r)) (hC : r.C = CR) (nm : m ∉ r.f1 ++ r.sf :: r.f2)
    (h : Ta B ρ (e :: es) fun ds => ∃ i, D.ref r.p :: ds = A i r ∧ C i r ∧ Sub (M i) B.M ∧ (∀ c fs, XR i r c fs → YR c fs) ∧ ∀ d r', R i r d r' → r' = r ∧ k d)
    (hN : B.X.N[j]? = some x := by rfl) (hv : Vis B.X.env.scope x := by first | exact Or.inl rfl | exact Or.inr (Or.inl rfl) | exact Or.inr (Or.inr rfl)) (hd : (x == ("__debug__" : Str)) = false := by decide) (hcd : (x == ("__classdict__" : Str)) = false := by decide)
    (hrm : n ≤ rm := by decide) (hst : starEach (e :: es) B.X.env = (false, eval e B.X.env) :: starEach es B.X.env := by rfl) (hpl : (backTo pos (starEach es B.X.env)).any (·.1) = false := by rfl)
    (ht : eval (.Call (.Attribute (.Name x np) m apos) (e :: es) [] pos) B.X.env = (do
      let ov ← eval (.Name x np) B.X.env
      standAt apos.atName
      let (f, first) ← holding [ov] (getMethod ov m pl)
      callWith pos f first (backTo pos (starEach (e :: es) B.X.env)) (backToKw pos (keywordEach [] B.X.env))) := by rfl) :
    Tk B ρ (.Call (.Attribute (.Name x np) m apos) (e :: es) [] pos) k := by
  obtain ⟨f, fd, ps, hm, hb, F1⟩ := F.ex
  obtain ⟨W, tk, hW⟩ := rz
  refine Tk.of fun σ H G s => ?_
  obtain ⟨ra0, rs0, _⟩ := s.rdAt hj
  obtain ⟨dx, kvs, eo, ek, rk⟩ := ra0.rep.all
  refine ⟨_, pe_methS (E := WE W) (pe_var hN hv hd hcd) c hm F1 (hr.mono hrm) hb (passAt tk) pa_W hst hpl ht, .ref r.p, rs0, r.p, dx, kvs, rfl, by rw [ra0.o, eo, hC], lookup_none (by rw [ek]; exact nm), h.ta s fun vs ds G1 H1 g1 i1 r1 h1 => ?_⟩
  obtain ⟨i, ei, ci, sb, hx, q⟩ := h1
  have s1 := s.step g1 i1
  have rs := s1.rdSub hj sb
  refine ⟨i, r, G1, ci, s1.gr.s, sb.inn i1, rs, by rw [← ei]; exact .cons (.ref r.p) r1, fun v d r' G' H' g i' rd ra hR => ?_, fun c fs od G' H' g i' xd ra z => ?_⟩
  · obtain ⟨e1, hkk⟩ := q d r' hR
    subst e1
    obtain ⟨g', j'⟩ := sb.up i1 (Gr.full rs ra g) i'
    exact .back i1 g1 ⟨d, G', g', j', rd, hkk⟩
  · obtain ⟨g', j'⟩ := sb.up i1 (Gr.full rs ra g) i'
    exact hW c fs od σ H' G' (s1.step g' j') xd (hx c fs z)
end
/-! ### try in a frame that holds such an instance; clauses without names -/
section
variable {B : Bx} {ρ : List En} {pos : Pos} {rest : List Stmt} {D0 : Ed}
theorem StOk.boxX {σ : L2.St} {H G : Hp} {X' : Cx} (hK : X'.K = B.X.K) (s : StOk B ρ σ H G) : StOk { B with X := X' } ρ σ H G :=
  ⟨s.gr, s.inv, s.len, fun j d h => by
    obtain ⟨v, e, r⟩ := s.va j d h
    exact ⟨v, e, by rw [hK]; exact r⟩, fun j q d h => by
    obtain ⟨p, o, e, hp, gp, h0, w, t, z⟩ := s.ow j q d h
    exact ⟨p, o, e, hp, gp, h0, w, by rw [hK]; exact t, z⟩, s.ap, s.rd.move hK rfl (fun i r h => ⟨h, rfl⟩) (fun i r h b o _ e => e) (.refl _) (fun i r h b hb => (s.rd.a0 i r h).2.2.2.2.2 b hb) s.rd.ro⟩
def HdR (B : Bx) (ρ : List En) (rest : List Stmt) (D0 : Ed) (c : Addr) : List (Addr × Option Nat × List Stmt) → Prop
  | [] => False
  | (C, i, su) :: more => i = none ∧ ∃ b, PySem.W.exmOne B.X.K (.ref c) (.ref C) = some b ∧ (b = false → HdR B ρ rest D0 c more) ∧ (b = true → ∀ a oe pn, Tss { B with X := B.X.suite a ((a, oe) :: pn) } ρ su (Ed.hnd B none rest D0))
theorem Ed.r_box {X' : Cx} (hK : X'.K = B.X.K) {v : V} {H' : Hp} (h : D0.r { B with X := X' } v H') : D0.r B v H' := by
  rcases h with ⟨d, G', g, i, r, k⟩ | h
  · exact .inl ⟨d, G', g, i, by rw [← hK]; exact r, k⟩
  · exact .inr h
theorem hdr_run {kp : Hp} {c : Addr} {od : Option Addr} {σ : L2.St} {H G : Hp} (s : StOk B ρ σ H G) (g : Same kp G) : ∀ {l : List (Addr × Option Nat × List Stmt)}, HdR B ρ rest D0 c l →
    wHnd B.X.K (fun _ _ _ _ => False) { nx := tWS B.X rest (D0.e B kp), rt := D0.r B } (l.map fun c => (Value.ref c.1, c.2.1, tZ B.X c.2.2)) (.ref c) od σ H
  | [], h => h.elim
  | (C, i, su) :: more, h => by
    obtain ⟨hi, b, hb, no, yes⟩ := h
    cases hi
    refine ⟨b, hb, fun e => hdr_run s g (no e), fun e a na => ?_⟩
    exact fun oe pn hz hf => tWS_mono (yes e a oe pn kp σ H G (s.boxX rfl) g) (fun _ _ q => q) (fun v H' q => Ed.r_box (X' := B.X.suite a ((a, oe) :: pn)) rfl q) (fun _ _ q => q.elim) (fun _ _ q => q.elim)
theorem s_tryR {body : List Stmt} {h0 : ExceptHandler} {hds : List ExceptHandler} {cl : List (Addr × Option Nat × List Stmt)} {YR : Addr → List (Str × D) → Prop} (hs : B.X.stack = B.X.env :: B.X.outer) (hf : B.X.env.frame = some B.X.env.locals) (tk : Takes B.X (fun _ _ _ _ => False))
    (C : ClD B.X (h0 :: hds) cl) (hh : ∀ c fs, YR c fs → HdR B ρ rest D0 c cl)
    (hb : ∀ pn xe, PassesOwn (model B.X.prog B.X.w) B.X.A B.X.env xe → Rz { B with X := B.X.tr pn xe } ρ YR → Tss { B with X := B.X.tr pn xe } ρ body (Ed.hnd B none rest D0)) (hk : ∀ kp kp', D0.nx kp = D0.nx kp' := by intro _ _; rfl) :
    Tss B ρ (.Try body (h0 :: hds) [] [] pos :: rest) D0 := Tss.of fun kp σ H G s g => by
  have ek : D0.e B kp = D0.e B B.G0 := by
    unfold Ed.e
    rw [hk kp B.G0]
  rw [ek]
  have g : Same B.G0 G := s.gr.g
  refine ⟨_, ps_tryAny (tb := fun W D σ H => ∀ pn xe, Takes (B.X.tr pn xe) W → PassesOwn (model B.X.prog B.X.w) B.X.A B.X.env xe → tWS (B.X.tr pn xe) body D σ H) hs hf tk (fun W pn xe tk po => ⟨fun pins s _ _ _ I h => h pn xe tk po pins s I⟩) C.clauses, fun pn xe tk' po => ?_⟩
  refine tWS_mono (hb pn xe po ⟨_, tk', fun c fs od σ' H' G' st xd hy => ?_⟩ B.G0 σ H G (s.boxX rfl) g) (fun _ _ q => q) (fun v H' q => Ed.r_box (X' := B.X.tr pn xe) rfl q) (fun _ _ q => q.elim) (fun _ _ q => q.elim)
  have st' : StOk B ρ σ' H' G' := StOk.boxX (B := { B with X := B.X.tr pn xe }) (X' := B.X) rfl st
  exact hdr_run st' st'.gr.g (hh c fs hy)
/-- the end of such a suite -/
theorem s_hendR {X' : Cx} (hK : X'.K = B.X.K) (h : Tss B ρ rest D0) : Tss { B with X := X' } ρ [] (Ed.hnd B none rest D0) := s_nil fun kp σ H G s g => h kp σ H G (StOk.boxX (B := { B with X := X' }) (X' := B.X) hK.symm s) g
end
end Fz
/-! .. such an instance made; len of it -/
namespace Fz
open PySem PySem.Spec PyProof.Rows L2
section
variable {B : Bx} {ρ : List En} {σ : L2.St} {H G H' G' H1 G1 : Hp} {r r' : Rd}
/-- an own instance gets its own list -/
theorem StOk.owRd (s : StOk B ρ σ H G) {j : Nat} {q0 : Option Addr} {d : D} (hj : ρ[j]? = some (.ow q0 d)) (hp : σ[j]? = some (some (.ref r.p))) (hls : H r.ls = none) (hH : ∀ b o, ¬ r.has b → H b = some o → H' b = some o) (ho : H' r.p = some r.o) (hl : H' r.ls = some (.lst r.xs)) (hr : RdRep B.X.K B.S G r) (hne : r.p ≠ r.ls) :
    StOk B (ρ.set j (.rd r)) σ H' G := by
  obtain ⟨p, o, e1, e2, gp, h0, hw, t, _⟩ := s.ow j q0 d hj
  rw [hp] at e1
  obtain rfl : r.p = p := by cases e1; rfl
  have jl : j < ρ.length := (List.getElem?_eq_some_iff.mp hj).1
  have free : ∀ b, r.has b → G b = none ∧ B.H0 b = none ∧ ¬ B.M.W b := fun b hb => by
    rcases hb with rfl | rfl
    · exact ⟨gp, h0, hw⟩
    · have w : ¬ B.M.W r.ls := s.noW hls
      refine ⟨s.gr.s.free hls, ?_, w⟩
      cases z : B.H0 r.ls with
      | none => rfl
      | some u => rw [s.gr.h _ u w z] at hls; cases hls
  have hs : Same G H' := fun b o e => hH b o (fun hb => by rw [(free b hb).1] at e; cases e) (s.gr.s b o e)
  have back : ∀ {i : Nat} {f : En}, (ρ.set j (.rd r))[i]? = some f → (j = i ∧ f = .rd r) ∨ (j ≠ i ∧ ρ[i]? = some f) := fun {i f} h => by
    by_cases hij : j = i
    · subst hij
      rw [List.getElem?_set_self jl] at h
      exact .inl ⟨rfl, (Option.some.inj h).symm⟩
    · rw [List.getElem?_set_ne hij] at h
      exact .inr ⟨hij, h⟩
  have othO : ∀ (i : Nat) (q : Option Addr) (d2 : D) (x : Addr), j ≠ i → ρ[i]? = some (.ow q d2) → σ[i]? = some (some (.ref x)) → ¬ r.has x := fun i q d2 x hij h1 h2 hb => by
    obtain ⟨p0, o0, z1, z2, _⟩ := s.ow i q d2 h1
    rw [h2] at z1
    obtain rfl : x = p0 := by cases z1; rfl
    rcases hb with e | e
    · exact hij (s.ap j i q0 q d d2 r.p hj h1 hp (by rw [h2, e]))
    · rw [← e, z2] at hls; cases hls
  have othR : ∀ (i : Nat) (r2 : Rd), ρ[i]? = some (.rd r2) → ∀ b, r2.has b → ¬ r.has b := fun i r2 h1 b hb hb' => by
    obtain ⟨o2, z2⟩ := s.rd.sm h1 hb
    rcases hb' with e | e
    · exact s.rd.ro i j r2 q0 d r.p h1 hj hp (by rw [← e]; exact hb)
    · rw [← e, z2] at hls; cases hls
  refine ⟨⟨s.gr.g, hs, fun b o w h => ?_, s.gr.d⟩, B.M.st s.inv (.refl _) hs (fun b w => (B.M.nn s.inv w).1) (fun b o w h => hH b o (fun hb => (free b hb).2.2 w) h), by rw [List.length_set]; exact s.len, fun i d h => ?_, fun i q d h => ?_, fun a b q1 r1 d2 e q h1 h2 h3 h4 => ?_, ⟨fun i r2 h => ?_, fun i k r1 r2 h1 h2 hik b hb => ?_, fun i k r1 q d x h1 h2 hx => ?_⟩⟩
  · exact hH b o (fun hb => by rw [(free b hb).2.1] at h; cases h) (s.gr.h b o w h)
  · rcases back h with ⟨_, z⟩ | ⟨_, z⟩
    · cases z
    · exact s.va i d z
  · rcases back h with ⟨_, z⟩ | ⟨hn, z⟩
    · cases z
    · obtain ⟨p0, o0, e1, e2, e3⟩ := s.ow i q d z
      exact ⟨p0, o0, e1, hH p0 o0 (othO i q d p0 hn z e1) e2, e3⟩
  · rcases back h1 with ⟨_, z1⟩ | ⟨_, z1⟩
    · cases z1
    · rcases back h2 with ⟨_, z2⟩ | ⟨_, z2⟩
      · cases z2
      · exact s.ap a b _ _ d2 e q z1 z2 h3 h4
  · rcases back h with ⟨rfl, z⟩ | ⟨hij, z⟩
    · cases z
      exact ⟨hp, ho, hl, hr, hne, free⟩
    · obtain ⟨a1, a2, a3, a4, a5, a6⟩ := s.rd.a0 i r2 z
      exact ⟨a1, hH _ _ (othR i r2 z _ (.inl rfl)) a2, hH _ _ (othR i r2 z _ (.inr rfl)) a3, a4, a5, a6⟩
  · rcases back h1 with ⟨rfl, z1⟩ | ⟨hi, z1⟩
    · cases z1
      rcases back h2 with ⟨rfl, z2⟩ | ⟨hk, z2⟩
      · exact absurd rfl hik
      · exact fun hb2 => othR k r2 z2 b hb2 hb
    · rcases back h2 with ⟨rfl, z2⟩ | ⟨hk, z2⟩
      · cases z2
        exact othR i r1 z1 b hb
      · exact s.rd.rr i k r1 r2 z1 z2 hik b hb
  · rcases back h2 with ⟨_, z2⟩ | ⟨hk, z2⟩
    · cases z2
    · rcases back h1 with ⟨_, z1⟩ | ⟨_, z1⟩
      · cases z1
        exact othO k q d x hk z2 hx
      · exact s.rd.ro i k r1 q d x z1 z2 hx
end
section
variable {B : Bx} {ρ : List En} {a b c e : Expr} {es : List Expr} {x y f : Str} {pos p p' ap np lp : Pos} {rest : List Stmt} {D0 : Ed}
/-- self.f = [..], a new field of an instance that is being made, the list its own -/
theorem s_rdmk (j : Nat) {C : Addr} {fs : List Str} {ds : List D} {q0 : Option Addr} (hr : ρ[j]? = some (.ow q0 (.ins C fs ds))) (hc : Cls B.X.K C) (hn : NoAttr B.X.K C f) (nf : f ∉ fs) (hl : fs.length < 900)
    (h : Ta B ρ es fun st => st.length ≤ sizeLine ∧ ∀ r : Rd, (∀ a, q0 = some a → r.p = a) → r.C = C → r.f1 = fs → r.d1 = ds → r.sf = f → r.st = st → r.f2 = [] → r.d2 = [] → Tss B (ρ.set j (.rd r)) rest D0) (hN : B.X.N[j]? = some x := by rfl) (hv : Vis B.X.env.scope x := by first | exact Or.inl rfl | exact Or.inr (Or.inl rfl) | exact Or.inr (Or.inr rfl))
    (hd : (x == ("__debug__" : Str)) = false := by decide) (hcd : (x == ("__classdict__" : Str)) = false := by decide) (hs : swapsWith (.List es lp) (some (.Attribute (.Name x np) f ap)) pos.line B.X.env = pure false := by rfl) :
    Tss B ρ (.Assign [.Attribute (.Name x np) f ap] (.List es lp) pos :: rest) D0 := Tss.of fun kp σ H G s g => by
  refine ⟨_, ps_fld (pe_var hN hv hd hcd) (pe_lst pa_W) hs, h.ta s fun vs st G' H' g' i' r' h' => ⟨by rw [r'.length]; exact h'.1, fun l nl => ?_⟩⟩
  have s1 := s.step g' i'
  obtain ⟨q, o, e1, e2, gp, h0, hw, t, hq⟩ := s1.ow j _ _ hr
  cases t with
  | @ins _ dx kvs _ xs _ h1 h2 ra =>
    have hpl : q ≠ l := fun z => by rw [← z, e2] at nl; cases nl
    refine ⟨.ref q, e1, q, C, dx, kvs, rfl, by rw [upd_ne hpl]; exact e2, hc, hn, ?_, ?_⟩
    · have : kvs.length = fs.length := by rw [← h1, List.length_map]
      omega
    · rw [putF_new (by rw [h1]; exact nf)]
      refine h'.2 ⟨q, l, .ins C dx (kvs ++ [(f, V.ref l)]), vs, C, fs, ds, f, st, [], []⟩ hq rfl rfl rfl rfl rfl rfl rfl kp _ _ G' (s1.owRd (r := ⟨q, l, .ins C dx (kvs ++ [(f, V.ref l)]), vs, C, fs, ds, f, st, [], []⟩) hr e1 nl (fun b o hb e => ?_) upd_same ?_ ⟨dx, kvs, [], rfl, h1, by rw [h2]; exact ra, rfl, .nil, r'⟩ hpl) (g.trans g'.g)
      · rw [upd_ne (show b ≠ q from fun z => hb (.inl z)), upd_ne (show b ≠ l from fun z => hb (.inr z))]; exact e
      · show upd (upd H' l _) q _ l = some (.lst vs)
        rw [upd_ne (Ne.symm hpl), upd_same]
/-- self.f = e, a further field behind the own list -/
theorem s_rdadd (j : Nat) {r : Rd} (hr : ρ[j]? = some (.rd r)) (hc : Cls B.X.K r.C) (hn : NoAttr B.X.K r.C f) (nf : f ∉ r.f1 ++ r.sf :: r.f2) (hl : r.f1.length + r.f2.length < 900) (h : Tk B ρ e fun d => ∀ o, Tss B (ρ.set j (.rd { r with o := o, f2 := r.f2 ++ [f], d2 := r.d2 ++ [d] })) rest D0)
    (hN : B.X.N[j]? = some x := by rfl) (hv : Vis B.X.env.scope x := by first | exact Or.inl rfl | exact Or.inr (Or.inl rfl) | exact Or.inr (Or.inr rfl))
    (hd : (x == ("__debug__" : Str)) = false := by decide) (hcd : (x == ("__classdict__" : Str)) = false := by decide) (hs : swapsWith e (some (.Attribute (.Name x np) f ap)) pos.line B.X.env = pure false := by rfl) :
    Tss B ρ (.Assign [.Attribute (.Name x np) f ap] e pos :: rest) D0 := Tss.of fun kp σ H G s g => by
  refine ⟨_, ps_fld (pe_var hN hv hd hcd) pe_W hs, h.te s fun v d G' H' g' i' r' h' => ?_⟩
  have s1 := s.step g' i'
  obtain ⟨ra, rs, _⟩ := s1.rdAt hr
  obtain ⟨dx, k1, k2, h1, h2, h3, h4, h5, rst⟩ := ra.rep.ex
  have en : (k1 ++ (r.sf, V.ref r.ls) :: k2).map (·.1) = r.f1 ++ r.sf :: r.f2 := by rw [List.map_append, List.map_cons, h2, h4]
  have hlen : (k1 ++ (r.sf, V.ref r.ls) :: k2).length < 1000 := by
    have e1 := congrArg List.length h2
    have e2 := congrArg List.length h4
    rw [List.length_map] at e1 e2
    rw [List.length_append, List.length_cons, e1, e2]
    omega
  refine ⟨.ref r.p, rs, r.p, r.C, dx, _, rfl, by rw [ra.o, h1], hc, hn, hlen, ?_⟩
  rw [putF_new (by rw [en]; exact nf)]
  refine h' _ kp _ _ G' (s1.rdTo (r' := { r with o := .ins r.C dx ((k1 ++ (r.sf, V.ref r.ls) :: k2) ++ [(f, v)]), f2 := r.f2 ++ [f], d2 := r.d2 ++ [d] }) hr rfl (.inl rfl) (fun b o hb e => ?_) upd_same ?_ ⟨dx, k1, k2 ++ [(f, v)], ?_, h2, h3, ?_, ?_, rst⟩ ra.ne) (g.trans g'.g)
  · rw [upd_ne (show b ≠ r.p from fun z => hb (.inl z))]; exact e
  · show upd H' r.p _ r.ls = some (.lst r.xs)
    rw [upd_ne (Ne.symm ra.ne)]; exact ra.l
  · show HO.ins r.C dx _ = HO.ins r.C dx _
    rw [List.append_assoc]
    rfl
  · rw [List.map_append, h4]; rfl
  · rw [List.map_append]
    exact h5.append (.one r')
end
/-- an __init__ that gives an own list -/
def SpN (K : PySem.W.Frag) (S : Addr) (C : Addr) {ι : Type} (Cc V : ι → Prop) (A : ι → List D) (R : ι → Rd → Prop) (XR : ι → Addr → List (Str × D) → Prop) : Sp := fun vs H Q E => ∃ i G x dx us, Cc i ∧ Same G H ∧ G x = none ∧ H x = some (.ins C dx []) ∧ vs = .ref x :: us ∧ RepAll K S G us (A i) ∧
  (V i → ∀ r G' H', Same G G' → Same G' H' → (∀ b o, b ≠ x → H b = some o → H' b = some o) → (∀ b o, H b = some o → G b = none → G' b = none) → r.p = x → H r.ls = none → RdAt K S noW H' G' r → R i r → Q .non H') ∧
  (∀ c fs od G' H', Same G G' → Same G' H' → (∀ b o, b ≠ x → H b = some o → H' b = some o) → (∀ b o, b ≠ x → H b = some o → G b = none → G' b = none) → Xd K S G' od fs → XR i c fs → E (.ref c) od H')
section
variable (P : Program) (w : World) (K : PySem.W.Frag) (mg : Str → Option Value) (base : Heap) (S : Addr)
structure KnR (x : Str) (n : Nat) (C : Addr) {ι : Type} (Cc V : ι → Prop) (A : ι → List D) (R : ι → Rd → Prop) (XR : ι → Addr → List (Str × D) → Prop) : Prop where
  ex : ∃ f fd ps, mg x = some (.ref C) ∧ Mk K C f ∧ Binds K fd ps [] ∧ FnOk P w K mg base (L2.CX P w) n f fd ps (SpN K S C Cc V A R XR)
end
section
variable {P : Program} {w : World} {K : PySem.W.Frag} {mg : Str → Option Value} {base : Heap}
theorem ini_okR {ι : Type} {S C : Addr} {Cc V : ι → Prop} {A : ι → List D} {R : ι → Rd → Prop} {XR : ι → Addr → List (Str × D) → Prop} {qual : Str} {st : Stmt} {f : Addr} {fd : FuncData} {N ps : List Str} {n : Nat} (F : Fun K "__init__" qual st f fd)
    (Sc : FnScope N ps (defScope st)) (len : ∀ i, (A i).length + 1 = ps.length) (ρ0 : Addr → ι → List En) (h0 : ∀ a i, ρ0 a i = En.ow (some a) (.ins C [] []) :: ((A i).map En.val ++ List.replicate (N.length - ((A i).length + 1)) En.no))
    (body : ∀ (cdv : Value) (Ar : Around) (outer : List Env) (s : Shared) (H H0 : Hp) (E : XK) (a : Addr) (i : ι) (G : Hp), Cc i → Room n (Ar.deeper (envOfC qual (defScope st) s.heap.objs.size f cdv)) →
      PassesOwn (model P w) (cxOf (L2.CX P w) P w K mg base N qual (defScope st) f cdv Ar outer s H E).A (cxOf (L2.CX P w) P w K mg base N qual (defScope st) f cdv Ar outer s H E).env (cxOf (L2.CX P w) P w K mg base N qual (defScope st) f cdv Ar outer s H E).xe →
      (∀ c fs od G' H', Gr noW G H0 G' H' → Xd K S G' od fs → XR i c fs → E (.ref c) od H') →
      Tss ⟨cxOf (L2.CX P w) P w K mg base N qual (defScope st) f cdv Ar outer s H E, S, pur, G, H0⟩ (ρ0 a i) (defBody st) ⟨fun _ σ H' => ∃ ρ G' r, StOk ⟨cxOf (L2.CX P w) P w K mg base N qual (defScope st) f cdv Ar outer s H E, S, pur, G, H0⟩ ρ σ H' G' ∧ V i ∧ ρ[0]? = some (.rd r) ∧ r.p = a ∧ R i r, fun _ => False, fun _ _ => False⟩) :
    FnOk P w K mg base (L2.CX P w) (n + 1) f fd ps (SpN K S C Cc V A R XR) := by
  refine F.okX Sc (fun vs H Q E h => ?_) (fun cdv Ar outer s H vs Q E hr h => ⟨_, pss_W, ?_⟩)
  · obtain ⟨i, G, a, dx, us, _, _, _, _, rfl, r, _⟩ := h
    rw [List.length_cons, r.length, len i]
  · obtain ⟨i, G, a, dx, us, hc, hs, ga, ha, rfl, r, q, qx⟩ := h
    have hlN : ps.length ≤ N.length := by have := congrArg List.length Sc.pre; rw [List.length_take] at this; omega
    have hlA := r.length
    have hlp := len i
    let H0 : Hp := fun b => if b = a then none else H b
    have h00 : H0 a = none := if_pos rfl
    have h01 : ∀ {b o}, H0 b = some o → b ≠ a ∧ H b = some o := fun {b o} e => by
      by_cases hb : b = a
      · exact absurd e (by rw [hb, h00]; intro z; cases z)
      · exact ⟨hb, by have : H0 b = H b := if_neg hb; rw [← this]; exact e⟩
    have h02 : ∀ {b o}, b ≠ a → H b = some o → H0 b = some o := fun {b o} hb e => by
      have : H0 b = H b := if_neg hb
      rw [this]; exact e
    have g0 : Gr noW G H0 G H := ⟨.refl _, hs, fun b o _ e => (h01 e).2, fun _ _ _ n => n⟩
    have s0 : StOk ⟨cxOf (L2.CX P w) P w K mg base N qual (defScope st) f cdv Ar outer s H E, S, pur, G, H0⟩ (ρ0 a i) (L2.start N (.ref a :: us)) H G := by
      rw [h0 a i]
      have shape : ∀ (j : Nat) (en : En), ((A i).map En.val ++ List.replicate (N.length - ((A i).length + 1)) En.no)[j]? = some en → (∃ d, en = .val d ∧ (A i)[j]? = some d) ∨ en = .no := fun j en hd => by
        by_cases hj : j < (A i).length
        · rw [List.getElem?_append_left (by rw [List.length_map]; exact hj), List.getElem?_map] at hd
          obtain ⟨d, e, rfl⟩ := Option.map_eq_some_iff.mp hd
          exact .inl ⟨d, rfl, e⟩
        · rw [List.getElem?_append_right (by rw [List.length_map]; omega), List.getElem?_replicate] at hd
          split at hd
          · exact .inr (Option.some.inj hd).symm
          · cases hd
      refine ⟨g0, trivial, ?_, fun j d hd => ?_, fun j q1 d hd => ?_, fun i1 j1 q1 r1 d e p h1 h2 _ _ => ?_, .non0 fun j r hd => ?_⟩
      · unfold L2.start
        simp only [List.length_cons, List.length_append, List.length_map, List.length_replicate]
        omega
      · rcases j with _ | j
        · cases hd
        · rw [List.getElem?_cons_succ] at hd
          rcases shape j _ hd with ⟨d', z, e⟩ | z
          · cases z
            have hj := (List.getElem?_eq_some_iff.mp e).1
            obtain ⟨v, hv, rv⟩ := r.get e
            refine ⟨v, ?_, rv⟩
            rw [start_get (by rw [List.length_cons]; omega), List.getElem?_cons_succ, hv]
            rfl
          · cases z
      · rcases j with _ | j
        · cases hd
          exact ⟨a, _, rfl, ha, ga, h00, fun z => z, .ins rfl rfl .nil, fun _ z => Option.some.inj z⟩
        · rw [List.getElem?_cons_succ] at hd
          rcases shape j _ hd with ⟨d', z, e⟩ | z <;> cases z
      · rcases i1 with _ | i1
        · rcases j1 with _ | j1
          · rfl
          · rw [List.getElem?_cons_succ] at h2
            rcases shape j1 _ h2 with ⟨d', z, e⟩ | z <;> cases z
        · rw [List.getElem?_cons_succ] at h1
          rcases shape i1 _ h1 with ⟨d', z, e⟩ | z <;> cases z
      · rcases j with _ | j
        · cases hd
        · rw [List.getElem?_cons_succ] at hd
          rcases shape j _ hd with ⟨d', z, e⟩ | z <;> cases z
    refine tWS_mono (body cdv Ar outer s H H0 E a i G hc hr (passes_of rfl) (fun c fs od G' H' gr hX hR => qx c fs od G' H' gr.g gr.s (fun b o hb e => gr.h b o (fun z => z) (h02 hb e)) (fun b o hb e n => gr.d b o (h02 hb e) n) hX hR) G _ H G s0 (.refl _))
      (fun σ H' z => ?_) (fun v H' z => ?_) (fun _ _ z => z.elim) (fun _ _ z => z.elim)
    · obtain ⟨ρ, G', r2, s', hV, hr2, hp, hR⟩ := z
      obtain ⟨ra, _, hfree⟩ := s'.rdAt hr2
      have hls : r2.ls ≠ a := fun z => ra.ne (hp.trans z.symm)
      refine q hV r2 G' H' s'.gr.g s'.gr.s (fun b o hb e => s'.gr.h b o (fun z => z) (h02 hb e)) (fun b o e n => ?_) hp ?_ ra hR
      · by_cases hb : b = a
        · rw [hb, ← hp]; exact (ra.fr _ (.inl rfl)).1
        · exact s'.gr.d b o (h02 hb e) n
      · have e := hfree r2.ls (.inr rfl)
        cases z : H r2.ls with
        | none => rfl
        | some o =>
          have e2 : H0 r2.ls = none := e
          rw [h02 hls z] at e2
          cases e2
    · obtain ⟨d, G', _, _, _, z⟩ := z.resolve_right fun y => y
      exact z.elim
end
/-- an expression that makes such an instance -/
def TkN (B : Bx) (ρ : List En) (e : Expr) (k : Rd → Prop) : Prop := ∀ σ H G, StOk B ρ σ H G → tW B.X e σ H fun v H' => ∃ r G', v = .ref r.p ∧ H r.p = none ∧ H r.ls = none ∧ RdAt B.X.K B.S B.M.W H' G' r ∧ Gr B.M.W G H G' H' ∧ B.M.I G' H' ∧ k r
section
variable {B : Bx} {ρ : List En} {a b c e : Expr} {es : List Expr} {k : Rd → Prop} {x y f m : Str} {pos p p' p'' ap np lp apos : Pos} {rest : List Stmt} {D0 : Ed}
theorem TkN.of (h : ∀ σ H G, StOk B ρ σ H G → ∃ t : TE, PE B.X e t ∧ t σ H fun v H' => ∃ r G', v = .ref r.p ∧ H r.p = none ∧ H r.ls = none ∧ RdAt B.X.K B.S B.M.W H' G' r ∧ Gr B.M.W G H G' H' ∧ B.M.I G' H' ∧ k r) : TkN B ρ e k := fun σ H G s pins s0 I => by
  obtain ⟨t, p, q⟩ := h σ H G s
  exact p.run pins s0 σ H _ I q
theorem TkN.te (h : TkN B ρ e k) {σ : L2.St} {H G : Hp} (s : StOk B ρ σ H G) {Q : VK} (q : ∀ r G' H', H r.p = none → H r.ls = none → RdAt B.X.K B.S B.M.W H' G' r → Gr B.M.W G H G' H' → B.M.I G' H' → k r → Q (.ref r.p) H') : tW B.X e σ H Q := fun pins s0 I =>
  thn (h σ H G s pins s0 I) fun _ _ ⟨v, H', I', rv, r, G', ev, n1, n2, ra, g, i, hk⟩ => ⟨v, H', I', rv, by
    subst ev
    exact q r G' H' n1 n2 ra g i hk⟩
/-- C(e, ..) -/
theorem tkn_make {C : Addr} {ι : Type} {Cc V : ι → Prop} {A : ι → List D} {R : ι → Rd → Prop} {XR : ι → Addr → List (Str × D) → Prop} {n : Nat} (F : KnR B.X.prog B.X.w B.X.K B.X.mg B.X.base B.S x n C Cc V A R XR) {rm : Nat} (hr : Room rm B.X.A)
    (h : Ta B ρ (e :: es) fun ds => ∃ i, ds = A i ∧ Cc i ∧ (∀ c fs, ¬ XR i c fs) ∧ V i ∧ ∀ r, R i r → k r) (hg : Gl B.X x := by rfl)
    (hdb : (x == ("__debug__" : Str)) = false := by decide) (he : starEach (e :: es) B.X.env = (false, eval e B.X.env) :: starEach es B.X.env := by rfl) (hpl : (backTo pos (starEach es B.X.env)).any (·.1) = false := by rfl) (hrm : n + 1 ≤ rm := by decide) :
    TkN B ρ (.Call (.Name x p) (e :: es) [] pos) k := TkN.of fun σ H G s => by
  obtain ⟨fI, fd, ps, hm, M, hb, FI⟩ := F.ex
  refine ⟨_, pe_make M FI (hr.mono hrm) hg hm hb .nil passX0 pa_W hdb he hpl, h.ta s fun vs ds G1 H1 g1 i1 r1 h1 => ?_⟩
  obtain ⟨i, rfl, ci, nx, hV, q⟩ := h1
  have s1 := s.step g1 i1
  intro a dx na ndx ne
  rw [List.append_nil]
  have ga : G1 a = none := s1.gr.s.free na
  have h2a : upd (upd H1 dx (.own a)) a (.ins C dx []) a = some (.ins C dx []) := upd_same
  have keep : ∀ b o, H1 b = some o → upd (upd H1 dx (.own a)) a (.ins C dx []) b = some o := fun b o hb' => by
    rw [upd_ne (ne_of_none hb' na), upd_ne (ne_of_none hb' ndx)]
    exact hb'
  refine ⟨i, G1, a, dx, vs, ci, same_upd2 s1.gr.s ndx na, ga, h2a, rfl, r1, fun _ r G' H' gg ss kk dd hp hls ra hR => ⟨rfl, ?_⟩, fun c fs od G' H' _ _ _ _ _ z => nx c fs z⟩
  have nls : H1 r.ls = none := by
    cases z : H1 r.ls with
    | none => rfl
    | some o => rw [keep _ o z] at hls; cases hls
  have g2 : Gr B.M.W G1 H1 G' H' := ⟨gg, ss, fun b u _ e => kk b u (ne_of_none e na) (keep b u e), fun b u e n => dd b u (keep b u e) n⟩
  have i2 : B.M.I G' H' := B.M.st i1 gg ss (fun b w => by
    obtain ⟨n, u, e⟩ := B.M.nn i1 w
    exact g2.d b u e n) fun b u w e => kk b u (ne_of_none e na) (keep b u e)
  have np1 : H1 r.p = none := by rw [hp]; exact na
  refine ⟨r, G', by rw [hp], ?_, ?_, ⟨ra.o, ra.l, ra.rep, ra.ne, fun b hb => ⟨(ra.fr b hb).1, ?_⟩⟩, g1.trans i1 g2, i2, q r hR⟩
  · cases z : H r.p with
    | none => rfl
    | some o => rw [g1.h _ o (s1.noW np1) z] at np1; cases np1
  · cases z : H r.ls with
    | none => rfl
    | some o => rw [g1.h _ o (s1.noW nls) z] at nls; cases nls
  · rcases hb with rfl | rfl
    · exact s1.noW np1
    · exact s1.noW nls
/-- name = e -/
theorem s_newR (i : Nat) (h : TkN B ρ e fun r => Tss B (ρ.set i (.rd r)) rest D0) (hN : B.X.N.Nodup) (hl : i < ρ.length := by decide) (hi : B.X.N[i]? = some x := by rfl) (hx : Loc B.X.env.scope x := by first | exact .inl rfl | exact .inr rfl)
    (hs : swapsWith e (some (.Name x p')) pos.line B.X.env = pure false := by rfl) (hf : B.X.fn x = true ∨ B.X.env.scope.names.lookup x = some .local := by first | exact .inl rfl | exact .inr rfl) :
    Tss B ρ (.Assign [.Name x p'] e pos :: rest) D0 := Tss.of fun kp σ H G s g =>
  ⟨_, ps_set hN hi hx pe_W hs hf, h.te s fun r G' H' n1 n2 ra g' i' hk => hk kp _ _ G' (s.putRd n1 n2 (s.step g' i') ra hl) (g.trans g'.g)⟩
/-- x, y = e, b, e making -/
theorem s_parNV (i j : Nat) {kt kk pt2 pt} (h : TkN B ρ a fun r => Tk B ρ b fun d => Tss B ((ρ.set i (.rd r)).set j (.val d)) rest D0) (hc : B.X.calm = true) (hN : B.X.N.Nodup) (hl : i < ρ.length := by decide) (hij : i ≠ j := by decide) (hi : B.X.N[i]? = some x := by rfl) (hj : B.X.N[j]? = some y := by rfl)
    (hx : B.X.env.scope.names.lookup x = some .local := by rfl) (hy : B.X.env.scope.names.lookup y = some .local := by rfl)
    (hw : swappedStores [.Tuple [.Name x p', .Name y p''] kt pt] (.Tuple [a, b] kk pt2) B.X.env = pure (some [x, y]) := by rfl)
    (hs : swapsWithSole [.Tuple [.Name x p', .Name y p''] kt pt] (.Tuple [a, b] kk pt2) pos.line B.X.env = pure false := by rfl)
    (he : starEach [a, b] B.X.env = (false, eval a B.X.env) :: starEach [b] B.X.env := by rfl) (he2 : starEach [b] B.X.env = (false, eval b B.X.env) :: starEach [] B.X.env := by rfl) :
    Tss B ρ (.Assign [.Tuple [.Name x p', .Name y p''] kt pt] (.Tuple [a, b] kk pt2) pos :: rest) D0 := Tss.of fun kp σ H G s gk =>
  ⟨_, ps_par hc hN hi hj hij hx hy (pa_cons pe_W (pa_cons pe_W pa_nil he2) he) hw hs, h.te s fun r G1 H1 n1 n2 ra g1 i1 hk => by
    have s1 := s.step g1 i1
    refine hk.te s1 fun v2 d2 G2 H2 g2 i2 r2 h2 => ?_
    exact ⟨.ref r.p, v2, rfl, h2 kp _ _ G2 ((s.putRd n1 n2 (s1.step g2 i2) (ra.step g2) hl).put r2) ((gk.trans g1.g).trans g2.g)⟩⟩
/-- x, y = e, e', both making -/
theorem s_parNN (i j : Nat) {kt kk pt2 pt} (h : TkN B ρ a fun r => TkN B ρ b fun r2 => Tss B ((ρ.set i (.rd r)).set j (.rd r2)) rest D0) (hc : B.X.calm = true) (hN : B.X.N.Nodup) (hl : i < ρ.length := by decide) (hl2 : j < ρ.length := by decide) (hij : i ≠ j := by decide) (hi : B.X.N[i]? = some x := by rfl) (hj : B.X.N[j]? = some y := by rfl)
    (hx : B.X.env.scope.names.lookup x = some .local := by rfl) (hy : B.X.env.scope.names.lookup y = some .local := by rfl)
    (hw : swappedStores [.Tuple [.Name x p', .Name y p''] kt pt] (.Tuple [a, b] kk pt2) B.X.env = pure (some [x, y]) := by rfl)
    (hs : swapsWithSole [.Tuple [.Name x p', .Name y p''] kt pt] (.Tuple [a, b] kk pt2) pos.line B.X.env = pure false := by rfl)
    (he : starEach [a, b] B.X.env = (false, eval a B.X.env) :: starEach [b] B.X.env := by rfl) (he2 : starEach [b] B.X.env = (false, eval b B.X.env) :: starEach [] B.X.env := by rfl) :
    Tss B ρ (.Assign [.Tuple [.Name x p', .Name y p''] kt pt] (.Tuple [a, b] kk pt2) pos :: rest) D0 := Tss.of fun kp σ H G s gk =>
  ⟨_, ps_par hc hN hi hj hij hx hy (pa_cons pe_W (pa_cons pe_W pa_nil he2) he) hw hs, h.te s fun r G1 H1 n1 n2 ra g1 i1 hk => by
    have s1 := s.step g1 i1
    have sr := s.putRd n1 n2 s1 ra hl
    refine hk.te s1 fun r2 G2 H2 m1 m2 rb g2 i2 h2 => ?_
    exact ⟨.ref r.p, .ref r2.p, rfl, h2 kp _ _ G2 (sr.putRd m1 m2 (sr.step g2 i2) rb (by rw [List.length_set]; exact hl2)) ((gk.trans g1.g).trans g2.g)⟩⟩
end
/-! ### a method that makes another one -/
def SpC (K : PySem.W.Frag) (S : Addr) {ι : Type} (M : ι → Md) (C : ι → Rd → Prop) (A : ι → Rd → List D) (R : ι → Rd → Rd → Prop) : Sp := fun vs H Q E => ∃ i r G, C i r ∧ Same G H ∧ (M i).I G H ∧ RdAt K S (M i).W H G r ∧ RepAll K S G vs (A i r) ∧
  (∀ r2 G' H', Gr (M i).W G (less r H) G' H' → (M i).I G' H' → H r2.p = none → H r2.ls = none → RdAt K S (M i).W H' G' r → RdAt K S (M i).W H' G' r2 → R i r r2 → Q (.ref r2.p) H')
structure KnC2 (P : Program) (w : World) (K : PySem.W.Frag) (mg : Str → Option Value) (base : Heap) (S : Addr) (m : Str) (n : Nat) (CR : Addr) {ι : Type} (M : ι → Md) (C : ι → Rd → Prop) (A : ι → Rd → List D) (R : ι → Rd → Rd → Prop) : Prop where
  ex : ∃ f fd ps, Meth K CR m f ∧ Binds K fd ps [] ∧ FnOk P w K mg base (L2.CX P w) n f fd ps (SpC K S M C A R)
def rxC (K : PySem.W.Frag) (S : Addr) (M : Md) (G0 H0 : Hp) (r : Rd) (R : Rd → Prop) : V → Hp → Prop := fun v H' => ∃ r2 G', Gr M.W G0 H0 G' H' ∧ M.I G' H' ∧ v = .ref r2.p ∧ H0 r2.p = none ∧ H0 r2.ls = none ∧ (∀ b, r.has b → ¬ r2.has b) ∧ RdAt K S M.W H' G' r ∧ RdAt K S M.W H' G' r2 ∧ R r2
section
variable {B : Bx} {ρ : List En} {x m : Str} {np pos apos : Pos} {rest : List Stmt} {D0 : Ed}
/-- return name, the new one; the old one in slot j0 -/
theorem s_retC (j0 j : Nat) {r r2 : Rd} {R : Rd → Prop} (h0 : ρ[j0]? = some (.rd r)) (h1 : ρ[j]? = some (.rd r2)) (hne : j0 ≠ j) (hx : D0.rx = rxC B.X.K B.S B.M B.G0 B.H0 r R) (hR : R r2)
    (hN : B.X.N[j]? = some x := by rfl) (hv : Vis B.X.env.scope x := by first | exact Or.inl rfl | exact Or.inr (Or.inl rfl) | exact Or.inr (Or.inr rfl)) (hd : (x == ("__debug__" : Str)) = false := by decide) (hcd : (x == ("__classdict__" : Str)) = false := by decide) : Tss B ρ (.Return (some (.Name x np)) pos :: rest) D0 := Tss.of fun kp σ H G s g => by
  obtain ⟨ra, _, _⟩ := s.rdAt h0
  obtain ⟨rb, e, f⟩ := s.rdAt h1
  refine ⟨_, ps_ret (pe_var hN hv hd hcd), .ref r2.p, e, .inr ?_⟩
  rw [hx]
  exact ⟨r2, G, s.gr, s.inv, rfl, f _ (.inl rfl), f _ (.inr rfl), s.rd.rr j0 j r r2 h0 h1 hne, ra, rb, hR⟩
/-- name.m(), making -/
theorem tkn_meth0 (j : Nat) {r : Rd} {k : Rd → Prop} {ι : Type} {M : ι → Md} {C : ι → Rd → Prop} {A : ι → Rd → List D} {R : ι → Rd → Rd → Prop} {n : Nat} {CR : Addr} {pl : Sem Bool} (F : KnC2 B.X.prog B.X.w B.X.K B.X.mg B.X.base B.S m n CR M C A R) (c : Cls B.X.K CR) {rm : Nat} (hr : Room rm B.X.A) (hj : ρ[j]? = some (.rd r)) (hC : r.C = CR) (nm : m ∉ r.f1 ++ r.sf :: r.f2)
    (h : ∃ i, [D.ref r.p] = A i r ∧ C i r ∧ Sub (M i) B.M ∧ ∀ r2, R i r r2 → k r2)
    (hN : B.X.N[j]? = some x := by rfl) (hv : Vis B.X.env.scope x := by first | exact Or.inl rfl | exact Or.inr (Or.inl rfl) | exact Or.inr (Or.inr rfl)) (hd : (x == ("__debug__" : Str)) = false := by decide) (hcd : (x == ("__classdict__" : Str)) = false := by decide)
    (hrm : n ≤ rm := by decide)
    (ht : eval (.Call (.Attribute (.Name x np) m apos) [] [] pos) B.X.env = (do
      let ov ← eval (.Name x np) B.X.env
      standAt apos.atName
      let (f, first) ← holding [ov] (getMethod ov m pl)
      callWith pos f first (backTo pos (starEach [] B.X.env)) (backToKw pos (keywordEach [] B.X.env))) := by rfl) :
    TkN B ρ (.Call (.Attribute (.Name x np) m apos) [] [] pos) k := TkN.of fun σ H G s => by
  obtain ⟨f, fd, ps, hm, hb, F⟩ := F.ex
  obtain ⟨ra0, rs0, _⟩ := s.rdAt hj
  obtain ⟨dx, kvs, eo, ek, rk⟩ := ra0.rep.all
  refine ⟨_, pe_meth0 (pe_var hN hv hd hcd) c hm F (hr.mono hrm) hb .nil passX0 ht, .ref r.p, rs0, r.p, dx, kvs, rfl, by rw [ra0.o, eo, hC], lookup_none (by rw [ek]; exact nm), ?_⟩
  obtain ⟨i, ei, ci, sb, q⟩ := h
  have rs := s.rdSub hj sb
  refine ⟨i, r, G, ci, s.gr.s, sb.inn s.inv, rs, by rw [← ei]; exact .one (.ref r.p), fun r2 G' H' g i' n1 n2 ra rb hR => ?_⟩
  obtain ⟨g', j'⟩ := sb.up s.inv (Gr.full rs ra g) i'
  refine ⟨r2, G', rfl, n1, n2, ⟨rb.o, rb.l, rb.rep, rb.ne, fun b hb => ⟨(rb.fr b hb).1, ?_⟩⟩, g', j', q r2 hR⟩
  rcases hb with rfl | rfl
  · exact s.noW n1
  · exact s.noW n2
end
/-! ### len(..) -/
section
variable {X : Cx} {CX : CXT} {k : Nat} {f C a dx : Addr} {fd : FuncData} {fs : List (Str × V)} {ps : List Str} {sp : Sp} {E : XK}
theorem len_ins {pins : List (Addr × Obj)} {σ : L2.St} {H : Hp} {s : Shared} {Q : VK} (I : Inv X pins σ H s) (ea : H a = some (.ins C dx fs)) (hs : PySem.W.findIn X.K (.ref C) "__len__" = some (some (.ref f))) (hf : PySem.W.typeIn X.K (.ref f) = some (.type "function"))
    (F : FnOk X.prog X.w X.K X.mg X.base CX k f fd ps sp) (hr : Room (k + 1) X.A) (hb : Binds X.K fd ps []) (hx : Passes CX X E) (h : sp [.ref a] H (fun v H' => ∃ n : Int, v = .int n ∧ 0 ≤ n ∧ n < 2 ^ 63 ∧ Q (.int n) H') E) :
    wpAny (model X.prog X.w) X.A (call (.builtin "len") [.ref a]) (EP X pins σ Q) X.xe s := by
  obtain ⟨mA, J, _⟩ := ins_get I.hok ea
  obtain ⟨od, J, _⟩ := J.look
  have spl : PySem.W.Looks (model X.prog X.w) s.heap (specialOf (.ref a) "__len__") (some (.ref f)) := J.type.andThen (PySem.W.looks_findIn I.kIn hs)
  have hl : ([Value.ref a] ++ []).length = ps.length := by
    rw [← F.len _ _ _ _ h]; rfl
  refine Calls.call_function_entry kind_len plain_len entry_len (args_len1 _) ?_
  unfold Builtin.«len»
  refine wpAny_bind (m := oneArg "len" _) (wpAny_pure ?_)
  refine wpAny_bind (m := callSpecial? (.ref a) (Str.ofString "__len__")) ?_
  simp only [callSpecial?]
  refine wpAny_bind (spl.here ?_)
  refine wpAny_holding (wpAny_bind ?_)
  unfold bindSpecial
  refine wpAny_bind ((PySem.W.looks_typeIn I.kIn hf).here ?_)
  rw [if_pos (by decide)]
  refine wpAny_pure ?_
  refine wpAny_bind (wpAny_mono (wpAny_call (codeAny_mono (F.run X.A.in1 X.stack s H ⟨[.ref a], []⟩ [.ref a] [.ref a] _ E hr.in1 I.env0.in1 (by
    have := hb s [.ref a] I.kIn hl
    rwa [List.append_nil] at this) (.cons rfl .nil) h) fun r s' hq => ?_)) (fun r s' hr' => wpAny_pure hr') fun _ _ z => z)
  cases r with
  | error e => exact hx pins σ H s e s' I hq
  | ok fl =>
    cases fl with
    | ret u =>
      obtain ⟨v, H', I3, rv, n, ev, n0, n1, q3⟩ := I.after hq
      subst ev
      obtain ⟨t, rfl⟩ := rv
      show wpAny (model X.prog X.w) X.A.in1 _ _ _ s'
      refine wpAny_bind (wpAny_holding (wpAny_pure ?_))
      refine wpAny_bind (wpAny_letGo ?_)
      show wpAny _ _ (if n < 0 then _ else _) _ _ _
      rw [if_neg (by omega)]
      show wpAny _ _ (if n ≥ 2 ^ 63 then _ else _) _ _ _
      rw [if_neg (by omega)]
      exact wpAny_bind (wpAny_mkInt (wpAny_pure ⟨_, rfl, .int n, H', I3.tok _, ⟨_, rfl⟩, q3⟩))
    | next => exact False.elim hq
    | brk => exact False.elim hq
    | cont => exact False.elim hq
end
end Fz
/-! such an instance: defs' facts turned to promises; copy; len; sorted(ints) -/
namespace Fz
open PySem PySem.Spec PyProof.Rows L2
section
variable {P : Program} {w : World} {K : PySem.W.Frag} {mg : Str → Option Value} {base : Heap} {S CR : Addr} {ι : Type} {M : ι → Md} {C : ι → Rd → Prop} {A : ι → Rd → List D} {R : ι → Rd → D → Rd → Prop} {XR : ι → Rd → Addr → List (Str × D) → Prop}
theorem knF_def {x : Str} {st : Stmt} {N ps : List Str} {n : Nat} (F : At K mg x st ps)
    (Sc : FnScope N ps (defScope st)) (k : Nat) (len : ∀ i r, (A i r).length = ps.length) (hk : ∀ i r, (A i r)[k]? = some (.ref r.p)) (ρ0 : ι → Rd → List En) (h0 : ∀ i r, ρ0 i r = ((A i r).map En.val).set k (.rd r) ++ List.replicate (N.length - (A i r).length) En.no)
    (body : ∀ (f : Addr) (cdv : Value) (Ar : Around) (outer : List Env) (s : Shared) (H : Hp) (E : XK) (i : ι) (r : Rd) (G : Hp), C i r → Room n (Ar.deeper (envOfC x (defScope st) s.heap.objs.size f cdv)) →
      PassesOwn (model P w) (cxOf (L2.CX P w) P w K mg base N x (defScope st) f cdv Ar outer s H E).A (cxOf (L2.CX P w) P w K mg base N x (defScope st) f cdv Ar outer s H E).env (cxOf (L2.CX P w) P w K mg base N x (defScope st) f cdv Ar outer s H E).xe →
      (∀ c fs od G' H', Gr (M i).W G (less r H) G' H' → (M i).I G' H' → Xd K S G' od fs → RdAt K S (M i).W H' G' r → XR i r c fs → E (.ref c) od H') →
      Tss ⟨cxOf (L2.CX P w) P w K mg base N x (defScope st) f cdv Ar outer s H E, S, M i, G, less r H⟩ (ρ0 i r) (defBody st) (Ed.rdr K S (M i) G (less r H) (R i r))) :
    KnF P w K mg base S x (n + 1) M C A R XR := by
  obtain ⟨f, fd, hm, F1, hb⟩ := F.ex
  exact ⟨f, fd, ps, hm, F1.kp, hb, def_okR F1 Sc k len hk ρ0 h0 fun cdv Ar outer s H E i r G hc hr po hx => body f cdv Ar outer s H E i r G hc hr po hx⟩
theorem knN_def {m qual : Str} {st : Stmt} {N ps : List Str} {n : Nat} (F : AtM K CR m qual st ps)
    (Sc : FnScope N ps (defScope st)) (k : Nat) (len : ∀ i r, (A i r).length = ps.length) (hk : ∀ i r, (A i r)[k]? = some (.ref r.p)) (ρ0 : ι → Rd → List En) (h0 : ∀ i r, ρ0 i r = ((A i r).map En.val).set k (.rd r) ++ List.replicate (N.length - (A i r).length) En.no)
    (body : ∀ (f : Addr) (cdv : Value) (Ar : Around) (outer : List Env) (s : Shared) (H : Hp) (E : XK) (i : ι) (r : Rd) (G : Hp), C i r → Room n (Ar.deeper (envOfC qual (defScope st) s.heap.objs.size f cdv)) →
      PassesOwn (model P w) (cxOf (L2.CX P w) P w K mg base N qual (defScope st) f cdv Ar outer s H E).A (cxOf (L2.CX P w) P w K mg base N qual (defScope st) f cdv Ar outer s H E).env (cxOf (L2.CX P w) P w K mg base N qual (defScope st) f cdv Ar outer s H E).xe →
      (∀ c fs od G' H', Gr (M i).W G (less r H) G' H' → (M i).I G' H' → Xd K S G' od fs → RdAt K S (M i).W H' G' r → XR i r c fs → E (.ref c) od H') →
      Tss ⟨cxOf (L2.CX P w) P w K mg base N qual (defScope st) f cdv Ar outer s H E, S, M i, G, less r H⟩ (ρ0 i r) (defBody st) (Ed.rdr K S (M i) G (less r H) (R i r))) :
    KnN P w K mg base S m (n + 1) CR M C A R XR := by
  obtain ⟨f, fd, hm, F1, hb⟩ := F.ex
  exact ⟨f, fd, ps, hm, hb, def_okR F1 Sc k len hk ρ0 h0 fun cdv Ar outer s H E i r G hc hr po hx => body f cdv Ar outer s H E i r G hc hr po hx⟩
theorem knH_def {m qual : Str} {st : Stmt} {N ps : List Str} {n : Nat} (F : AtG K CR m qual st ps)
    (Sc : FnScope N ps (defScope st)) (k : Nat) (len : ∀ i r, (A i r).length = ps.length) (hk : ∀ i r, (A i r)[k]? = some (.ref r.p)) (ρ0 : ι → Rd → List En) (h0 : ∀ i r, ρ0 i r = ((A i r).map En.val).set k (.rd r) ++ List.replicate (N.length - (A i r).length) En.no)
    (body : ∀ (f : Addr) (cdv : Value) (Ar : Around) (outer : List Env) (s : Shared) (H : Hp) (E : XK) (i : ι) (r : Rd) (G : Hp), C i r → Room n (Ar.deeper (envOfC qual (defScope st) s.heap.objs.size f cdv)) →
      Tss ⟨cxOf (L2.CX P w) P w K mg base N qual (defScope st) f cdv Ar outer s H E, S, M i, G, less r H⟩ (ρ0 i r) (defBody st) (Ed.rdr K S (M i) G (less r H) (R i r))) :
    KnH P w K mg base S m (n + 1) CR M C A R := by
  obtain ⟨p, g, fd, hm, F1, hb⟩ := F.ex
  exact ⟨p, g, fd, ps, hm, hb, def_okR F1 Sc k len hk ρ0 h0 fun cdv Ar outer s H E i r G hc hr po hx => body g cdv Ar outer s H E i r G hc hr⟩
/-- a method that makes another one -/
theorem knC2_def {R2 : ι → Rd → Rd → Prop} {m qual : Str} {st : Stmt} {N ps : List Str} {n : Nat} (F : AtM K CR m qual st ps)
    (Sc : FnScope N ps (defScope st)) (k : Nat) (len : ∀ i r, (A i r).length = ps.length) (hk : ∀ i r, (A i r)[k]? = some (.ref r.p)) (ρ0 : ι → Rd → List En) (h0 : ∀ i r, ρ0 i r = ((A i r).map En.val).set k (.rd r) ++ List.replicate (N.length - (A i r).length) En.no)
    (body : ∀ (f : Addr) (cdv : Value) (Ar : Around) (outer : List Env) (s : Shared) (H : Hp) (E : XK) (i : ι) (r : Rd) (G : Hp), C i r → Room n (Ar.deeper (envOfC qual (defScope st) s.heap.objs.size f cdv)) →
      Tss ⟨cxOf (L2.CX P w) P w K mg base N qual (defScope st) f cdv Ar outer s H E, S, M i, G, less r H⟩ (ρ0 i r) (defBody st) ⟨fun _ _ _ => False, fun _ => False, rxC K S (M i) G (less r H) r (R2 i r)⟩) :
    KnC2 P w K mg base S m (n + 1) CR M C A R2 := by
  obtain ⟨f, fd, hm, F1, hb⟩ := F.ex
  refine ⟨f, fd, ps, hm, hb, ?_⟩
  refine F1.okX Sc (fun vs H Q E h => ?_) (fun cdv Ar outer s H vs Q E hr h => ⟨_, pss_W, ?_⟩)
  · obtain ⟨i, r, G, _, _, _, _, ra, _⟩ := h
    rw [ra.length, len i r]
  · obtain ⟨i, r, G, hc, hs, hi, hrd, ra, q⟩ := h
    have hlN : ps.length ≤ N.length := by have := congrArg List.length Sc.pre; rw [List.length_take] at this; omega
    have hlA := ra.length
    have hlp := len i r
    have kl : k < (A i r).length := (List.getElem?_eq_some_iff.mp (hk i r)).1
    have hz : ∀ (j : Nat) (en : En), (ρ0 i r)[j]? = some en → (j = k ∧ en = .rd r) ∨ (j ≠ k ∧ ((∃ d, en = .val d ∧ (A i r)[j]? = some d) ∨ en = .no)) := fun j en hj => by
      rw [h0 i r] at hj
      by_cases hjl : j < (A i r).length
      · rw [List.getElem?_append_left (by rw [List.length_set, List.length_map]; exact hjl)] at hj
        by_cases hjk : k = j
        · subst hjk
          rw [List.getElem?_set_self (by rw [List.length_map]; exact kl)] at hj
          exact .inl ⟨rfl, (Option.some.inj hj).symm⟩
        · rw [List.getElem?_set_ne hjk, List.getElem?_map] at hj
          obtain ⟨d, hd, rfl⟩ := Option.map_eq_some_iff.mp hj
          exact .inr ⟨fun z => hjk z.symm, .inl ⟨d, rfl, hd⟩⟩
      · rw [List.getElem?_append_right (by rw [List.length_set, List.length_map]; omega), List.getElem?_replicate] at hj
        split at hj
        · exact .inr ⟨by omega, .inr (Option.some.inj hj).symm⟩
        · cases hj
    obtain ⟨v0, hv0, rv0⟩ := ra.get (hk i r)
    obtain rfl := rv0.refI
    have s0 : StOk ⟨cxOf (L2.CX P w) P w K mg base N qual (defScope st) f cdv Ar outer s H E, S, M i, G, less r H⟩ (ρ0 i r) (L2.start N vs) H G := by
      refine ⟨⟨.refl _, hs, fun b o _ e => (less_some e).2, fun b o _ n => n⟩, hi, ?_, fun j d hd => ?_, fun j q1 d hd => ?_, fun a b q1 r1 d e p h1 _ _ _ => ?_, ⟨fun j r2 hd => ?_, fun j j2 r1 r2 h1 h2 hij b hb => ?_, fun j j2 r1 q1 d x h1 h2 _ => ?_⟩⟩
      · rw [h0 i r]
        unfold L2.start
        rw [List.length_append, List.length_append, List.length_map, List.length_set, List.length_map, List.length_replicate, List.length_replicate]
        omega
      · rcases hz j _ hd with ⟨_, z⟩ | ⟨_, ⟨d', z, h1⟩ | z⟩
        · cases z
        · cases z
          obtain ⟨v, hv, rv⟩ := ra.get h1
          have hjl := (List.getElem?_eq_some_iff.mp h1).1
          exact ⟨v, by rw [start_get (by omega), hv]; rfl, rv⟩
        · cases z
      · rcases hz j _ hd with ⟨_, z⟩ | ⟨_, ⟨d', z, _⟩ | z⟩ <;> cases z
      · rcases hz a _ h1 with ⟨_, z⟩ | ⟨_, ⟨d', z, _⟩ | z⟩ <;> cases z
      · rcases hz j _ hd with ⟨rfl, z⟩ | ⟨_, ⟨d', z, _⟩ | z⟩
        · cases z
          exact ⟨by rw [start_get (by omega), hv0]; rfl, hrd.o, hrd.l, hrd.rep, hrd.ne, fun b hb => ⟨(hrd.fr b hb).1, less_has hb, (hrd.fr b hb).2⟩⟩
        · cases z
        · cases z
      · rcases hz j _ h1 with ⟨rfl, z⟩ | ⟨_, ⟨d', z, _⟩ | z⟩
        · rcases hz j2 _ h2 with ⟨rfl, z2⟩ | ⟨_, ⟨d', z2, _⟩ | z2⟩
          · exact absurd rfl hij
          · cases z2
          · cases z2
        · cases z
        · cases z
      · rcases hz j2 _ h2 with ⟨_, z⟩ | ⟨_, ⟨d', z, _⟩ | z⟩ <;> cases z
    have fin : ∀ v H', rxC K S (M i) G (less r H) r (R2 i r) v H' → Q v H' := fun v H' ⟨r2, G', g, j, ev, n1, n2, hh, rr, rr2, hR⟩ => by
      subst ev
      have a1 : ¬ r.has r2.p := fun z => hh _ z (.inl rfl)
      have a2 : ¬ r.has r2.ls := fun z => hh _ z (.inr rfl)
      rw [less_ne a1] at n1
      rw [less_ne a2] at n2
      exact q r2 G' H' g j n1 n2 rr rr2 hR
    exact tWS_mono (body f cdv Ar outer s H E i r G hc hr G (L2.start N vs) H G s0 (.refl _)) (fun _ H' z => z.elim) (fun v H' z => by
      rcases z with ⟨_, _, _, _, _, z⟩ | z
      · exact z.elim
      · exact fin v H' z) (fun _ _ z => z.elim) (fun _ _ z => z.elim)
end
/-- what such a def raises -/
theorem rz_defR {P : Program} {w : World} {K : PySem.W.Frag} {mg : Str → Option Value} {base : Heap} {S : Addr} {N : List Str} {q : Str} {sc} {f : Addr} {cdv : Value} {Ar : Around} {outer : List Env} {s : Shared} {H G : Hp} {E : XK} {M : Md} {ρ : List En} {r : Rd} {XR : Addr → List (Str × D) → Prop} (j : Nat) (hj : ρ[j]? = some (.rd r))
    (hx : ∀ c fs od G' H', Gr M.W G (less r H) G' H' → M.I G' H' → Xd K S G' od fs → RdAt K S M.W H' G' r → XR c fs → E (.ref c) od H') : Rz ⟨cxOf (L2.CX P w) P w K mg base N q sc f cdv Ar outer s H E, S, M, G, less r H⟩ ρ XR :=
  ⟨fun cls d _ H' => E cls d H', takes_of rfl rfl rfl rfl, fun c fs od σ H' G' st xd z => hx c fs od G' H' st.gr st.inv xd (st.rdAt hj).1 z⟩
/-! ### len(name) by its own __len__; sorted(ints) -/
def rLenIns (X : Cx) (C : Addr) (sp : Sp) : List V → Hp → VK → Prop := fun vs H Q => ∃ a dx fs, vs = [V.ref a] ∧ H a = some (.ins C dx fs) ∧ sp [.ref a] H (fun v H' => ∃ n : Int, v = .int n ∧ 0 ≤ n ∧ n < 2 ^ 63 ∧ Q (.int n) H') (fun _ _ _ => False)
theorem cr_lenIns {X : Cx} {k : Nat} {f C : Addr} {fd : FuncData} {ps : List Str} {sp : Sp} (hs : PySem.W.findIn X.K (.ref C) "__len__" = some (some (.ref f))) (hf : PySem.W.typeIn X.K (.ref f) = some (.type "function"))
    (F : FnOk X.prog X.w X.K X.mg X.base (L2.CX X.prog X.w) k f fd ps sp) (hr : Room (k + 1) X.A) (hb : Binds X.K fd ps []) : CallR X (.builtin "len") (rLenIns X C sp) := by
  intro pins s σ H vs us Q I r h
  obtain ⟨a, dx, fs, rfl, ea, h⟩ := h
  rw [Vals.ref1 r]
  exact len_ins I ea hs hf F hr hb passX0 h
section
variable {B : Bx} {ρ : List En} {a : Expr} {k : D → Prop} {x : Str} {pos p np : Pos} {ι : Type} {M : ι → Md} {C : ι → Rd → Prop} {A : ι → Rd → List D} {R : ι → Rd → D → Rd → Prop} {n : Nat} {CR : Addr}
theorem tk_lenR (j : Nat) {r : Rd} {XR : ι → Rd → Addr → List (Str × D) → Prop} (F : KnN B.X.prog B.X.w B.X.K B.X.mg B.X.base B.S "__len__" n CR M C A R XR) (hm : B.X.mg "len" = none) {rm : Nat} (hr : Room rm B.X.A) (hj : ρ[j]? = some (.rd r)) (hC : r.C = CR)
    (h : ∃ i, [D.ref r.p] = A i r ∧ C i r ∧ Sub (M i) B.M ∧ (∀ c fs, ¬ XR i r c fs) ∧ ∀ d r', R i r d r' → r' = r ∧ ∃ m : Nat, d = .int (m : Int) ∧ m < 2 ^ 62 ∧ k d)
    (hN : B.X.N[j]? = some x := by rfl) (hv : Vis B.X.env.scope x := by first | exact Or.inl rfl | exact Or.inr (Or.inl rfl) | exact Or.inr (Or.inr rfl)) (hd : (x == ("__debug__" : Str)) = false := by decide) (hcd : (x == ("__classdict__" : Str)) = false := by decide)
    (hg : Gl B.X "len" := by rfl) (hrm : n + 1 ≤ rm := by decide)
    (he : starEach (.Name x np :: []) B.X.env = (false, eval (.Name x np) B.X.env) :: starEach [] B.X.env := by rfl) (hpl : (backTo pos (starEach [] B.X.env)).any (·.1) = false := by rfl) : Tk B ρ (.Call (.Name "len" p) [.Name x np] [] pos) k := Tk.of fun σ H G s => by
  obtain ⟨f, fd, ps, hM, hb, F⟩ := F.ex
  obtain ⟨ra0, rs0, _⟩ := s.rdAt hj
  obtain ⟨dx, kvs, eo, ek, rk⟩ := ra0.rep.all
  refine ⟨_, pe_callB (CallR.wk (cr_lenIns (C := CR) hM.at_ (eq_of_beq hM.fn) F (hr.mono hrm) hb)) hg hm PySem.boot_len (pa_cons (pe_var hN hv hd hcd) pa_nil he) (by decide) (by decide) he hpl, .ref r.p, rs0, _, ⟨r.p, dx, kvs, rfl, by rw [ra0.o, eo, hC], ?_⟩, fun _ _ z => z⟩
  obtain ⟨i, ei, ci, sb, nx, q⟩ := h
  have rs := s.rdSub hj sb
  refine ⟨i, r, G, ci, s.gr.s, sb.inn s.inv, rs, by rw [← ei]; exact .one (.ref r.p), fun v d r' G' H' g i' rd ra hR => ?_, fun c fs od G' H' g _ _ _ z => nx c fs z⟩
  obtain ⟨e1, m, rfl, hm2, hkk⟩ := q d r' hR
  subst e1
  obtain ⟨g', j'⟩ := sb.up s.inv (Gr.full rs ra g) i'
  have e2 := rd.intI
  subst e2
  exact ⟨(m : Int), rfl, by omega, by omega, (m : Int) |> D.int, G', g', j', .int _, hkk⟩
def kLI (f : List Int → Prop) : D → Prop := fun d => ∃ ns : List Int, d = .lst (ns.map .int) ∧ f ns
theorem repInts {K : PySem.W.Frag} {S : Addr} {G : Hp} : ∀ out : List Int, RepAll K S G (out.map V.int) (out.map D.int)
  | [] => .nil
  | n :: ns => .cons (.int n) (repInts ns)
theorem tk_sortI (hm : B.X.mg "sorted" = none) (h : Tk B ρ a (kLI fun ns => ∀ out : List Int, out.Perm ns → out.Pairwise (· ≤ ·) → k (.lst (out.map .int)))) (hg : Gl B.X "sorted" := by rfl)
    (he : starEach (a :: []) B.X.env = (false, eval a B.X.env) :: starEach [] B.X.env := by rfl) (hpl : (backTo pos (starEach [] B.X.env)).any (·.1) = false := by rfl) : Tk B ρ (.Call (.Name "sorted" p) [a] [] pos) k :=
  tk_blt cr_sortedI hm PyProof.Rows.boot_sorted (ta_one h he)
    (fun vs ds G H sg i r h => by
      obtain ⟨v, d, rfl, rv, ns, rfl, hk⟩ := ko1 r h
      obtain ⟨l, xs, rfl, hx, ra⟩ := rv.lstI
      have e := ra.mapInt
      subst e
      exact ⟨l, ns, rfl, SqL.of (sg _ _ hx), fun out q hp ho hn => .new sg i hn (.lst (repInts out)) (hk out hp ho)⟩) hg (by decide) (by decide) he hpl
end
/-- + of tuples, the left one perhaps empty -/
def oAddT : D → D → (D → Prop) → Prop := fun x y k => match x, y with
  | .tup xs, .tup ys => xs.length + ys.length ≤ sizeLine ∧ k (.tup (xs ++ ys))
  | _, _ => False
theorem d_addT {B : Bx} : OpD B (binaryOp .Add) oAddT := fun x y k h v w G H e i rx ry pins σ s I v' w' r1 r2 => by
  unfold oAddT at h
  split at h
  · obtain ⟨a, xs, rfl, ga, ra⟩ := rx.tupI
    obtain ⟨b, ys, rfl, gb, rb⟩ := ry.tupI
    refine op_catA pins s σ H _ _ v' w' _ I r1 r2 ⟨a, b, xs, ys, rfl, rfl, same_seqT e ga, same_seqT e gb, by rw [ra.length, rb.length]; exact h.1, fun z => ?_, fun _ z => ?_, fun z z2 p n => .newT e i n (ra.append rb) h.2⟩
    · subst z
      cases ra
      exact .val e i ry h.2
    · subst z
      cases rb
      refine .val e i rx ?_
      have h3 := h.2
      rw [List.append_nil] at h3
      exact h3
  · exact h.elim
/-- a key that is not there: not in -/
def oNotInDn : D → D → (D → Prop) → Prop := fun x y k => ∃ (w : Str) (ks : List Key) (ds : List D), x = .str w ∧ y = .dct ks ds ∧ .inr w ∉ ks ∧ k (.bl true)
theorem d_notInDn {B : Bx} (hu : B.X.A.units + 1 < cLine) : OpD B (compareOp .NotIn) oNotInDn := fun x y k h v w G H e i rx ry pins σ s I v' w' r1 r2 => by
  obtain ⟨t, ks, ds, rfl, rfl, hk, hkk⟩ := h
  obtain ⟨q, kvs, rfl, hq, e1, ra⟩ := ry.dctI
  cases r2
  have hv : valV kvs (.inr t) = none := by
    unfold valV
    rw [List.find?_eq_none.mpr fun kv hkv => ?_]
    · rfl
    · intro z
      refine hk ?_
      rw [← e1, ← of_decide_eq_true z]
      exact List.mem_map_of_mem hkv
  have g : DGet H q (.str t) none := by rw [← hv]; exact DGet.k (k := .inr t) (e _ _ hq)
  rw [rx.strI] at r1
  exact d_notIn hu I g r1 fun s' I' => ⟨.bl true, H, I', rfl, .val e i (.bl _) hkk⟩
end Fz
namespace Pz
open PySem PySem.Spec PyProof.Rows L2 Fz
open Rat (divInt)
def topS (i : Nat) : Stmt := PySem.Challenge.pw_parcelends_k17_whole_rounds.main.body.getD i (.Pass ⟨0, 0, 0, 0⟩)
abbrev s__wall : Stmt := topS 0
abbrev s_InvalidShare_init : Stmt := inClass (topS 3) 0
abbrev s_BadNumber_init : Stmt := inClass (topS 4) 0
abbrev s_BadThrow_init : Stmt := inClass (topS 5) 0
abbrev s_Ended_init : Stmt := inClass (topS 6) 0
abbrev s_is_whole : Stmt := topS 9
abbrev s_is_within : Stmt := topS 10
abbrev s_common : Stmt := topS 11
abbrev s_fraction : Stmt := topS 12
abbrev s_product : Stmt := topS 13
abbrev s_Shares_init : Stmt := inClass (topS 17) 0
abbrev s_Shares_left : Stmt := inClass (topS 17) 1
abbrev s_Shares_right : Stmt := inClass (topS 17) 2
abbrev s_Shares_stay : Stmt := inClass (topS 17) 3
abbrev s_Shares_eq : Stmt := inClass (topS 17) 4
abbrev s_need_number : Stmt := topS 18
abbrev s_Round_init : Stmt := inClass (topS 20) 0
abbrev s_Round_shares : Stmt := inClass (topS 20) 1
abbrev s_Round_number : Stmt := inClass (topS 20) 2
abbrev s_Round_holder : Stmt := inClass (topS 20) 3
abbrev s_Round_had : Stmt := inClass (topS 20) 4
abbrev s_Round_last : Stmt := inClass (topS 20) 5
abbrev s_Round_chance : Stmt := inClass (topS 20) 6
abbrev s_Round_log : Stmt := inClass (topS 20) 7
abbrev s_Round_throw : Stmt := inClass (topS 20) 8
abbrev s_Round_undo : Stmt := inClass (topS 20) 9
abbrev s_Round_copy : Stmt := inClass (topS 20) 10
abbrev s_Round_len : Stmt := inClass (topS 20) 11
abbrev s_on_table : Stmt := topS 21
abbrev s__law_taken : Stmt := topS 23
abbrev s__law_frac : Stmt := topS 24
abbrev s__law_sum : Stmt := topS 25
abbrev s__law_times : Stmt := topS 26
abbrev s__law_less : Stmt := topS 27
abbrev s__law_total : Stmt := topS 28
abbrev s__law_drawn : Stmt := topS 29
abbrev s__law_made : Stmt := topS 30
abbrev s__law_told : Stmt := topS 31
abbrev s__law_begun : Stmt := topS 32
abbrev s__law_thrown : Stmt := topS 33
abbrev s__law_is : Stmt := topS 34
abbrev s__law_moved : Stmt := topS 35
abbrev s_law : Stmt := topS 36
/-! ## fractions.py -/
section
variable {P : Program} {w : World} {K : PySem.W.Frag} {mg : Str → Option Value} {base : Heap} {S : Addr}
def isWh : D → Bool
  | .int _ => true
  | _ => false
def isIntB : D → Bool
  | .int _ => true
  | .bl _ => true
  | _ => false
def isBlB : D → Bool
  | .bl _ => true
  | _ => false
theorem kit_int {d : D} {t : String} (h : dTy d = some t) : kitB t "int" = some (isIntB d) := by
  cases d <;> cases h <;> first | exact (by decide +kernel : kitB "NoneType" "int" = some false) | exact (by decide +kernel : kitB "bool" "int" = some true) | exact (by decide +kernel : kitB "int" "int" = some true) | exact (by decide +kernel : kitB "str" "int" = some false) | exact (by decide +kernel : kitB "tuple" "int" = some false) | exact (by decide +kernel : kitB "list" "int" = some false) | exact (by decide +kernel : kitB "dict" "int" = some false)
theorem kit_bool {d : D} {t : String} (h : dTy d = some t) : kitB t "bool" = some (isBlB d) := by
  cases d <;> cases h <;> first | exact (by decide +kernel : kitB "NoneType" "bool" = some false) | exact (by decide +kernel : kitB "bool" "bool" = some true) | exact (by decide +kernel : kitB "int" "bool" = some false) | exact (by decide +kernel : kitB "str" "bool" = some false) | exact (by decide +kernel : kitB "tuple" "bool" = some false) | exact (by decide +kernel : kitB "list" "bool" = some false) | exact (by decide +kernel : kitB "dict" "bool" = some false)
theorem boot_boolT : bootBuiltins "bool" = some (.type "bool") := by decide +kernel
theorem sc_is_whole : FnScope ["value"] ["value"] (defScope s_is_whole) := ⟨rfl, rfl, rfl, by decide +kernel, rfl, by decide +kernel, by decide +kernel⟩
variable (P w K mg base S) in
abbrev Kn_is_whole : Prop := KnP P w K mg base S "is_whole" 1 (fun d : D => ∃ t, dTy d = some t) (fun d => [d]) (fun d => .bl (isWh d))
theorem kn_is_whole (F : At K mg "is_whole" s_is_whole ["value"]) (m1 : mg "isinstance" = none) (m2 : mg "int" = none) (m3 : mg "bool" = none) : Kn_is_whole P w K mg base S := by
  refine kn_def F sc_is_whole (fun _ => rfl) (fun d => [.val d]) (fun _ => rfl) fun f cdv Ar outer s H E d G hc hr po hx => ?_
  obtain ⟨t, ht⟩ := hc
  refine s_ret ?_; refine tk_and ?_; refine tk_isi m1 m2 PySem.Pv.boot_int ?_; refine tk_v 0 rfl ?_
  refine ⟨t, _, ht, kit_int ht, ?_⟩
  refine cB_b (fun h1 => ?_) (fun h1 => ?_)
  · refine tk_one (tk_not ?_)
    refine tk_isi m1 m3 boot_boolT ?_; refine tk_v 0 rfl ?_
    refine ⟨t, _, ht, kit_bool ht, ?_⟩
    cases d <;> first | rfl | cases h1
  · cases d <;> first | rfl | cases h1
theorem sc_is_within : FnScope ["value", "low", "high"] ["value", "low", "high"] (defScope s_is_within) := ⟨rfl, rfl, rfl, by decide +kernel, rfl, by decide +kernel, by decide +kernel⟩
def within : D → Int → Int → Bool
  | .int i, lo, hi => decide (lo ≤ i) && decide (i ≤ hi)
  | _, _, _ => false
variable (P w K mg base S) in
abbrev Kn_is_within : Prop := KnP P w K mg base S "is_within" 2 (fun i : D × Int × Int => ∃ t, dTy i.1 = some t) (fun i => [i.1, .int i.2.1, .int i.2.2]) (fun i => .bl (within i.1 i.2.1 i.2.2))
theorem kn_is_within (F : At K mg "is_within" s_is_within ["value", "low", "high"]) (F1 : Kn_is_whole P w K mg base S) : Kn_is_within P w K mg base S := by
  refine kn_def F sc_is_within (fun _ => rfl) (fun i => [.val i.1, .val (.int i.2.1), .val (.int i.2.2)]) (fun _ => rfl) fun f cdv Ar outer s H E i G hc hr po hx => ?_
  obtain ⟨d, lo, hi⟩ := i
  dsimp only at hc ⊢
  refine s_ret ?_; refine tk_and ?_; refine tk_knP F1 hr ?_; refine ta_cons ?_; refine tk_v 0 rfl ?_; refine ta_nil ?_
  refine ⟨_, rfl, hc, ?_⟩
  cases d with
  | int i =>
    refine tk_one (tk_chain d_le d_le ?_)
    refine tk_v 1 rfl ?_; refine tk_v 0 rfl ?_
    refine cB_dec (fun h1 => ?_) (fun h1 => ?_)
    · refine tk_v 2 rfl ?_
      show D.bl _ = D.bl (decide (lo ≤ i) && decide (i ≤ hi))
      rw [decide_eq_true h1, Bool.true_and]
    · show D.bl _ = D.bl (decide (lo ≤ i) && decide (i ≤ hi))
      rw [decide_eq_false h1, Bool.false_and]
  | _ => rfl
theorem sc_common : FnScope ["one", "other"] ["one", "other"] (defScope s_common) := ⟨rfl, rfl, rfl, by decide +kernel, rfl, by decide +kernel, by decide +kernel⟩
variable (P w K mg base S) in
abbrev Kn_common : Prop := KnP P w K mg base S "common" 1 (fun i : Int × Int => Sz 9000 i.1 ∧ Sz 9000 i.2) (fun i => [.int i.1, .int i.2]) (fun i => .int ((i.1.gcd i.2 : Nat) : Int))
theorem kn_common (F : At K mg "common" s_common ["one", "other"]) (m1 : mg "abs" = none) : Kn_common P w K mg base S := by
  refine kn_def F sc_common (fun _ => rfl) (fun i => [.val (.int i.1), .val (.int i.2)]) (fun _ => rfl) fun f cdv Ar outer s H E i G hc hr po hx => ?_
  obtain ⟨a, b⟩ := i
  obtain ⟨ha, hb⟩ := hc
  dsimp only at ha hb ⊢
  refine s_par 0 1 (ta_two ?_) rfl sc_common.nd; refine tk_abs m1 ?_; refine tk_v 0 rfl ?_; refine tk_abs m1 ?_; refine tk_v 1 rfl ?_
  refine s_while (fun m ρ => ∃ x y : Nat, m = y ∧ ρ = [.val (.int x), .val (.int y)] ∧ Sz 9000 x ∧ Sz 9000 y ∧ x.gcd y = a.gcd b) b.natAbs ⟨_, _, rfl, rfl, ha.abs, hb.abs, rfl⟩ ?_ po
  rintro m ρ' ⟨x, y, rfl, rfl, hx', hy', hg⟩
  refine tt_cmp d_gt ?_; refine tk_v 1 rfl ?_; refine tk_i ?_
  refine cB_dec (fun h1 => ?_) (fun h1 => ?_)
  · have hy0 : 0 < m := by omega
    have e1 : (x : Int) / (m : Int) = ((x / m : Nat) : Int) := (Int.natCast_ediv x m).symm
    have hq : Sz 9000 ((x : Int) / (m : Int)) := by
      rw [e1]
      refine hx'.le ?_
      rw [Int.natAbs_natCast, Int.natAbs_natCast]
      exact Nat.div_le_self _ _
    have e2 : (x : Int) - (x : Int) / (m : Int) * (m : Int) = ((x % m : Nat) : Int) := by
      rw [e1]
      have := Nat.div_add_mod x m
      have h3 : ((m * (x / m) + x % m : Nat) : Int) = (x : Int) := by rw [this]
      rw [Int.natCast_add, Int.natCast_mul] at h3
      rw [Int.mul_comm] at h3
      omega
    refine s_par 0 1 (ta_two ?_) rfl sc_common.nd; refine tk_v 1 rfl ?_; refine tk_bin d_sub ?_; refine tk_v 0 rfl ?_; refine tk_bin d_mul ?_; refine tk_bin d_fdiv ?_
    refine tk_v 0 rfl ?_; refine tk_v 1 rfl ?_; refine ⟨hy'.divW (by omega), ?_⟩; refine tk_v 1 rfl ?_; refine ⟨hq.mulW hy', ?_⟩
    show Tss _ [.val (.int m), .val (.int ((x : Int) - (x : Int) / (m : Int) * (m : Int)))] _ _
    rw [e2]
    refine s_nil fun kp σ H G' s' g' => ⟨x % m, _, G', Nat.mod_lt _ hy0, ⟨m, x % m, rfl, rfl, hy', hx'.le ?_, ?_⟩, s', g'⟩
    · rw [Int.natAbs_natCast, Int.natAbs_natCast]
      exact Nat.mod_le _ _
    · rw [← hg, Nat.gcd_comm x m, Nat.gcd_rec m x, Nat.gcd_comm]
  · have hm : m = 0 := by omega
    subst hm
    refine s_ret ?_; refine tk_v 0 rfl ?_
    show D.int _ = D.int _
    rw [← hg, Nat.gcd_zero_right]
theorem sc_fraction : FnScope ["number", "parts", "divisor"] ["number", "parts"] (defScope s_fraction) := ⟨rfl, rfl, rfl, by decide +kernel, rfl, by decide +kernel, by decide +kernel⟩
variable (P w K mg base S) in
abbrev Kn_fraction : Prop := KnP P w K mg base S "fraction" 2 (fun i : Int × Int => i.2 ≠ 0 ∧ Sz 9000 i.1 ∧ Sz 9000 i.2) (fun i => [.int i.1, .int i.2]) (fun i => fr (divInt i.1 i.2))
theorem kn_fraction (F : At K mg "fraction" s_fraction ["number", "parts"]) (F1 : Kn_common P w K mg base S) : Kn_fraction P w K mg base S := by
  refine kn_def F sc_fraction (fun _ => rfl) (fun i => [.val (.int i.1), .val (.int i.2), .no]) (fun _ => rfl) fun f cdv Ar outer s H E i G hc hr po hx => ?_
  obtain ⟨a, b⟩ := i
  obtain ⟨h0, ha, hb⟩ := hc
  dsimp only at ha hb h0 ⊢
  have rest : ∀ (c d : Int), 0 < d → Sz 9000 c → Sz 9000 d → c / ((c.gcd d : Nat) : Int) = (divInt a b).num → d / ((c.gcd d : Nat) : Int) = (divInt a b).den →
      Tss ⟨cxOf (L2.CX P w) P w K mg base ["number", "parts", "divisor"] "fraction" (defScope s_fraction) f cdv Ar outer s H E, S, pur, G, H⟩ [.val (.int c), .val (.int d), .no] ((defBody s_fraction).drop 1) (Ed.ret ⟨cxOf (L2.CX P w) P w K mg base ["number", "parts", "divisor"] "fraction" (defScope s_fraction) f cdv Ar outer s H E, S, pur, G, H⟩ fun d => d = fr (divInt a b)) := by
    intro c d hd hc' hd' e1 e2
    have hg0 : (0 : Int) < ((c.gcd d : Nat) : Int) := by
      have := gcd_pos_of (n := c) (d := d) (by omega)
      omega
    have hgs : Sz 9000 ((c.gcd d : Nat) : Int) := gcd_sz (by omega) hd'
    refine s_set 2 ?_ sc_fraction.nd; refine tk_knP F1 hr ?_; refine ta_cons ?_; refine tk_v 0 rfl ?_; refine ta_cons ?_; refine tk_v 1 rfl ?_
    refine ta_nil ?_; refine ⟨(_, _), rfl, ⟨hc', hd'⟩, ?_⟩; refine s_ret ?_; refine tk_tup ?_; refine ta_cons ?_; refine tk_bin d_fdiv ?_
    refine tk_v 0 rfl ?_; refine tk_v 2 rfl ?_; refine ⟨hgs.divW hg0, ?_⟩; refine ta_cons ?_; refine tk_bin d_fdiv ?_; refine tk_v 1 rfl ?_
    refine tk_v 2 rfl ?_; refine ⟨hgs.divW hg0, ?_⟩; refine ta_nil ?_; refine ⟨lenOk (Nat.le_of_ble_eq_true rfl), ?_⟩
    show D.tup [.int _, .int _] = D.tup [.int _, .int _]
    rw [e1, e2]
  refine s_if ?_; refine tt_cmp d_lt ?_; refine tk_v 1 rfl ?_; refine tk_i ?_
  refine cB_dec (fun h1 => ?_) (fun h1 => ?_)
  · refine s_par 0 1 (ta_two ?_) rfl sc_fraction.nd; refine tk_neg ?_; refine tk_v 0 rfl ?_; refine tk_neg ?_; refine tk_v 1 rfl ?_; refine s_end ?_
    obtain ⟨e1, e2⟩ := frac_neg a b h1
    exact rest (-a) (-b) (by omega) ha.neg hb.neg e1.symm e2.symm
  · refine s_end ?_
    obtain ⟨e1, e2⟩ := frac_pos a b (by omega)
    exact rest a b (by omega) ha hb e1.symm e2.symm
variable (P w K mg base S) in
/-- two fractions in, one out -/
abbrev Kn_q2 (x : Str) (C : Rat → Rat → Prop) (f : Rat → Rat → Rat) : Prop := KnP P w K mg base S x 3 (fun i : Rat × Rat => QSz 4000 i.1 ∧ QSz 4000 i.2 ∧ C i.1 i.2) (fun i => [fr i.1, fr i.2]) (fun i => fr (f i.1 i.2))
theorem sc_product : FnScope ["one", "other"] ["one", "other"] (defScope s_product) := ⟨rfl, rfl, rfl, by decide +kernel, rfl, by decide +kernel, by decide +kernel⟩
theorem kn_product (F : At K mg "product" s_product ["one", "other"]) (F1 : Kn_fraction P w K mg base S) : Kn_q2 P w K mg base S "product" (fun _ _ => True) (fun a b => a * b) := by
  refine kn_def F sc_product (fun _ => rfl) (fun i => [.val (fr i.1), .val (fr i.2)]) (fun _ => rfl) fun f cdv Ar outer s H E i G hc hr po hx => ?_
  obtain ⟨a, b⟩ := i
  obtain ⟨ha, hb, _⟩ := hc
  dsimp only at ha hb ⊢
  have h1 := ha.num.mul hb.num
  have h3 := ha.den.mul hb.den
  refine s_ret ?_; refine tk_knP F1 hr ?_; refine ta_cons ?_; refine tk_bin d_mul ?_; refine tk_ix ?_; refine tk_v 0 rfl ?_
  refine tk_i ?_; refine ⟨_, rfl, ?_⟩; refine tk_ix ?_; refine tk_v 1 rfl ?_; refine tk_i ?_; refine ⟨_, rfl, ?_⟩
  refine ⟨ha.num.mulW hb.num, ?_⟩; refine ta_cons ?_; refine tk_bin d_mul ?_; refine tk_ix ?_; refine tk_v 0 rfl ?_; refine tk_i ?_
  refine ⟨_, rfl, ?_⟩; refine tk_ix ?_; refine tk_v 1 rfl ?_; refine tk_i ?_; refine ⟨_, rfl, ?_⟩; refine ⟨ha.den.mulW hb.den, ?_⟩
  refine ta_nil ?_
  refine ⟨(_, _), rfl, ⟨?_, h1.mono (by omega), h3.mono (by omega)⟩, ?_⟩
  · exact Int.ne_of_gt (Int.mul_pos (den_pos a) (den_pos b))
  · show fr _ = fr _
    rw [q_mul]
end
/-! ## the law's draws -/
section
variable {P : Program} {w : World} {K : PySem.W.Frag} {mg : Str → Option Value} {base : Heap} {S : Addr}
theorem sc_taken : FnScope ["_law_row", "_law_many", "_law_found", "_law_cell"] ["_law_row", "_law_many"] (defScope s__law_taken) := ⟨rfl, rfl, rfl, by decide +kernel, rfl, by decide +kernel, by decide +kernel⟩
variable (P w K mg base S) in
abbrev Kn_taken : Prop := Kn P w K mg base S "_law_taken" 1 (fun i : Addr × Int => rowM K i.1) (fun i => 0 < i.2 ∧ i.2 < 1073741824) (fun i => [.ref i.1, .int i.2]) (fun i d => ∃ v : Int, d = .int v ∧ 0 ≤ v ∧ v < i.2) (fun _ _ _ => False)
theorem kn_taken (F : At K mg "_law_taken" s__law_taken ["_law_row", "_law_many"]) (m1 : mg "int" = none) (m2 : mg "len" = none) : Kn_taken P w K mg base S := by
  obtain ⟨f, fd, hmg, F1, hb⟩ := F.ex
  refine ⟨f, fd, _, hmg, F1.kp, hb, F1.okX sc_taken (fun vs H Q E h => ?_) (fun cdv A outer s H vs Q E hr h => ?_)⟩
  · obtain ⟨i, G, _, _, _, r, _⟩ := h
    exact r.length
  obtain ⟨⟨r, many⟩, G, ⟨hm0, hm1⟩, hs, ⟨a, i, m, c, ns, hrow, gr, hS, hl, h0i, h0m, h0c⟩, ra, q, _⟩ := h
  dsimp only at hm0 hm1 hrow gr hS ra q
  obtain ⟨v1, v2, rfl, r1, r2⟩ := repAll2 ra
  obtain rfl := r1.refI
  obtain rfl := r2.intI
  have hSH : SqL K H a (ns.map V.int) := Same.seq hs hS
  have fin : ∀ (H' : Hp) (v i' m' c' : Int), (∀ b, b ≠ r → H' b = H b) → H' r = some (.lst [.ref a, .int i', .int m', .int c']) → 0 ≤ i' → 0 ≤ m' → 0 ≤ c' → 0 ≤ v → v < many → Q (.int v) H' := fun H' v i' m' c' hk hr' z1 z2 z3 z4 z5 => by
    have hs' : Same G H' := fun b o e => by
      rw [hk b (ne_of_none e gr)]
      exact hs b o e
    exact q _ (.int v) G H' ⟨.refl _, hs', fun b o hb e => by rw [hk b hb]; exact e, fun _ _ _ n => n⟩ ⟨a, i', m', c', ns, hr', gr, hS, hl, z1, z2, z3⟩ (.int v) ⟨v, rfl, z4, z5⟩
  have e0 : ∀ {x y z u : V}, atI [x, y, z, u] 0 = some x := rfl
  have e1 : ∀ {x y z u : V}, atI [x, y, z, u] 1 = some y := rfl
  have e2 : ∀ {x y z u : V}, atI [x, y, z, u] 2 = some z := rfl
  have e3 : ∀ {x y z u : V}, atI [x, y, z, u] 3 = some u := rfl
  have hmod : ∀ x : Int, 0 ≤ x % many ∧ x % many < many := fun x => ⟨Int.emod_nonneg _ (by omega), Int.emod_lt_of_pos _ hm0⟩
  refine ⟨_, pss_cons (ps_if (pt_cmpR op_gt (pe_ix ix_list (pv 0) pe_int (fun _ _ => rfl)) pe_int (nomark _))
      (pss_cons (ps_set (i := 2) sc_taken.nd rfl (.inl rfl) (pe_op op_mod (pe_callTy call_int1 (by rfl) m1 PySem.Pv.boot_int (pa_cons (pe_ix ix_list (pv 0) pe_int (fun _ _ => rfl)) pa_nil)) (pv 1)))
      (pss_cons (ps_asg (pe_op op_fdiv (pe_ix ix_list (pv 0) pe_int (fun _ _ => rfl)) (pv 1)) (pg_sub (pv 0) pe_int set_list))
      (pss_one (ps_ret (pv 2))))) pss_nil)
    (pss_cons (ps_asg (pe_op op_add (pe_ix ix_list (pv 0) pe_int (fun _ _ => rfl)) pe_int) (pg_sub (pv 0) pe_int set_list))
    (pss_cons (ps_if (pt_cmpR op_gt (pe_ix ix_list (pv 0) pe_int (fun _ _ => rfl)) (pe_callB call_len_seq (by rfl) m2 PySem.boot_len (pa_cons (pe_ix ix_list (pv 0) pe_int (fun _ _ => rfl)) pa_nil)) (nomark _))
      (pss_cons (ps_asg (pe_op op_mod (pe_callTy call_int1 (by rfl) m1 PySem.Pv.boot_int (pa_cons (pe_op op_add (pe_op op_mul (pe_ix ix_list (pv 0) pe_int (fun _ _ => rfl)) pe_int) pe_int) pa_nil)) pe_int) (pg_sub (pv 0) pe_int set_list))
      (pss_one (ps_ret (pe_op op_mod (pe_callTy call_int1 (by rfl) m1 PySem.Pv.boot_int (pa_cons (pe_op op_fdiv (pe_ix ix_list (pv 0) pe_int (fun _ _ => rfl)) pe_int) pa_nil)) (pv 1))))) pss_nil)
    (pss_cons (ps_set (i := 3) sc_taken.nd rfl (.inl rfl) (pe_ix ix_list (pe_ix ix_list (pv 0) pe_int (fun _ _ => rfl)) (pe_op op_sub (pe_ix ix_list (pv 0) pe_int (fun _ _ => rfl)) pe_int) (fun _ _ => rfl)))
    (pss_cons (ps_asg (pe_op op_mod (pe_callTy call_int1 (by rfl) m1 PySem.Pv.boot_int (pa_cons (pe_op op_add (pe_op op_add (pe_op op_mul (pe_ix ix_list (pv 0) pe_int (fun _ _ => rfl)) pe_int) (pv 3)) pe_int) pa_nil)) pe_int) (pg_sub (pv 0) pe_int set_list))
    (pss_cons (ps_if (pt_cmpR op_ge (pv 3) (pe_op op_pow pe_int pe_int) (nomark _)) (pss_one (ps_asg (pe_op op_fdiv (pv 3) (pv 1)) (pg_sub (pv 0) pe_int set_list))) pss_nil)
    (pss_one (ps_ret (pe_op op_mod (pe_callTy call_int1 (by rfl) m1 PySem.Pv.boot_int (pa_cons (pv 3) pa_nil)) (pv 1))))))))), ?_⟩
  -- if row[3] > 0
  refine ⟨_, rfl, r, _, _, _, rfl, rfl, SqL.of hrow, e3, _, _, rfl, rfl, _, rfl, ?_⟩
  refine ite2 (fun hc => ?_) (fun hc => ?_)
  · have hc := of_decide_eq_true hc
    refine ⟨_, rfl, r, _, _, _, rfl, rfl, SqL.of hrow, e3, .inl ⟨_, rfl, _, rfl, _, _, rfl, rfl, hm0, ?_⟩⟩
    refine ⟨_, rfl, r, _, _, _, rfl, rfl, SqL.of hrow, e3, _, rfl, _, _, rfl, rfl, ⟨hm0, hm1⟩, _, rfl, r, _, _, 3, rfl, rfl, hrow, rfl, _, rfl, ?_⟩
    exact fin _ _ i m _ (fun b hb => upd_ne hb) upd_same h0i h0m (Int.ediv_nonneg h0c (by omega)) (hmod c).1 (hmod c).2
  · refine ⟨_, rfl, r, _, _, _, rfl, rfl, SqL.of hrow, e1, _, _, rfl, rfl, _, rfl, r, _, _, 1, rfl, rfl, hrow, rfl, ?_⟩
    have hrow1 : upd H r (.lst [.ref a, .int (i + 1), .int m, .int c]) r = some (.lst [.ref a, .int (i + 1), .int m, .int c]) := upd_same
    have hSH1 : ∀ {o : HO}, SqL K (upd H r o) a (ns.map V.int) := fun {o} => Same.seq (fun b x e => by rw [upd_ne (ne_of_none e gr)]; exact hs b x e) hS
    refine ⟨_, rfl, r, _, _, _, rfl, rfl, SqL.of hrow1, e1, _, rfl, r, _, _, _, rfl, rfl, SqL.of hrow1, e0, a, _, rfl, .inl hSH1, _, _, rfl, rfl, _, rfl, ?_⟩
    refine ite2 (fun hc2 => ?_) (fun hc2 => ?_)
    · refine ⟨_, rfl, r, _, _, _, rfl, rfl, SqL.of hrow1, e2, _, _, rfl, rfl, .inr ⟨by decide, by decide⟩, _, _, rfl, rfl, .inl ⟨_, rfl, _, _, rfl, rfl, (by decide : (0 : Int) < 2147483647), _, rfl, r, _, _, 2, rfl, rfl, hrow1, rfl, ?_⟩⟩
      refine ⟨_, rfl, r, _, _, _, rfl, rfl, SqL.of upd_same, e2, _, _, rfl, rfl, ⟨by decide, by decide⟩, .inl ⟨_, rfl, _, rfl, _, _, rfl, rfl, hm0, ?_⟩⟩
      exact fin _ _ (i + 1) _ c (fun b hb => by rw [upd_ne hb, upd_ne hb]) upd_same (by omega) (Int.emod_nonneg _ (by decide)) h0c (hmod _).1 (hmod _).2
    · have hc2 : ¬ (((ns.map V.int).length : Nat) : Int) < i + 1 := fun z => hc2 (decide_eq_true z)
      rw [List.length_map] at hc2
      have hi : i.toNat < ns.length := by omega
      have hat : atI (ns.map V.int) (i + 1 - 1) = some (V.int ns[i.toNat]) := by
        have e : i + 1 - 1 = ((i.toNat : Nat) : Int) := by omega
        rw [e]
        exact atI_nat (by rw [List.getElem?_map, List.getElem?_eq_getElem hi]; rfl)
      refine ⟨_, rfl, r, _, _, _, rfl, rfl, SqL.of hrow1, e0, _, rfl, r, _, _, _, rfl, rfl, SqL.of hrow1, e1, _, _, rfl, rfl, a, _, _, _, rfl, rfl, hSH1, hat, ?_⟩
      generalize ns[i.toNat] = cell
      refine ⟨_, rfl, r, _, _, _, rfl, rfl, SqL.of hrow1, e2, _, _, rfl, rfl, .inr ⟨by decide, by decide⟩, _, rfl, _, _, rfl, rfl, _, _, rfl, rfl, .inl ⟨_, rfl, _, _, rfl, rfl, (by decide : (0 : Int) < 2147483647), _, rfl, r, _, _, 2, rfl, rfl, hrow1, rfl, ?_⟩⟩
      refine ⟨_, rfl, _, _, rfl, rfl, ⟨by decide, by decide, by decide⟩, _, _, rfl, rfl, _, rfl, ?_⟩
      refine ite2 (fun hc3 => ?_) (fun hc3 => ?_)
      · have hc3 := of_decide_eq_true hc3
        have hc4 : 0 ≤ cell := Int.le_trans (by decide) hc3
        refine ⟨_, rfl, _, rfl, _, _, rfl, rfl, ⟨hm0, hm1⟩, _, rfl, r, _, _, 3, rfl, rfl, upd_same, rfl, ?_⟩
        refine ⟨_, rfl, .inl ⟨_, rfl, _, rfl, _, _, rfl, rfl, hm0, ?_⟩⟩
        exact fin _ _ (i + 1) _ _ (fun b hb => by rw [upd_ne hb, upd_ne hb, upd_ne hb]) upd_same (by omega) (Int.emod_nonneg _ (by decide)) (Int.ediv_nonneg hc4 (by omega)) (hmod _).1 (hmod _).2
      · refine ⟨_, rfl, .inl ⟨_, rfl, _, rfl, _, _, rfl, rfl, hm0, ?_⟩⟩
        exact fin _ _ (i + 1) _ c (fun b hb => by rw [upd_ne hb, upd_ne hb]) upd_same (by omega) (Int.emod_nonneg _ (by decide)) h0c (hmod _).1 (hmod _).2
end
section
variable {B : Bx} {ρ : List En} {a : Expr} {k : D → Prop} {x y : Str} {pos p p' : Pos}
/-- a draw: _law_taken(_law_row, a), the row in slot j -/
theorem tk_taken {q : Addr} (F : Kn_taken B.X.prog B.X.w B.X.K B.X.mg B.X.base B.S) {rm : Nat} (hr : Room rm B.X.A) (j : Nat) (hj : ρ[j]? = some (.val (.ref q))) (hM : B.M = rowM B.X.K q)
    (h : Tk B ρ a fun d => ∃ m, d = .int m ∧ 0 < m ∧ m < 1073741824 ∧ ∀ v, 0 ≤ v → v < m → k (.int v))
    (hN : B.X.N[j]? = some x := by rfl) (hv : Vis B.X.env.scope x := by first | exact Or.inl rfl | exact Or.inr (Or.inl rfl) | exact Or.inr (Or.inr rfl)) (hd : (x == ("__debug__" : Str)) = false := by decide) (hcd : (x == ("__classdict__" : Str)) = false := by decide)
    (hg : Gl B.X "_law_taken" := by rfl) (he : starEach (.Name x p' :: [a]) B.X.env = (false, eval (.Name x p') B.X.env) :: starEach [a] B.X.env := by rfl) (he2 : starEach [a] B.X.env = (false, eval a B.X.env) :: starEach [] B.X.env := by rfl)
    (hpl : (backTo pos (starEach [a] B.X.env)).any (·.1) = false := by rfl) (hrm : 1 ≤ rm := by decide) : Tk B ρ (.Call (.Name "_law_taken" p) [.Name x p', a] [] pos) k := by
  refine tk_kn F hr (ta_cons (tk_v j hj ?_ hN hv hd hcd) he) hg (by decide) he hpl hrm
  refine ta_cons (fun σ H G s pins s0 I => thn (h σ H G s pins s0 I) fun u s' ⟨v, H', I', r, d, G', g, i', rp, m, e, m0, m1, hk⟩ => ⟨v, H', I', r, d, G', g, i', rp, ta_nil ?_⟩) he2
  subst e
  refine ⟨(q, m), rfl, ⟨m0, m1⟩, .inr hM.symm, fun _ _ z => z, ?_⟩
  rintro d ⟨v, rfl, h1, h2⟩
  exact hk v h1 h2
end
/-! ## errors.py -/
section
variable {P : Program} {w : World} {K : PySem.W.Frag} {mg : Str → Option Value} {base : Heap} {S : Addr}
theorem sc_InvalidShare : FnScope ["self", "name"] ["self", "name"] (defScope s_InvalidShare_init) := ⟨rfl, rfl, rfl, by decide +kernel, rfl, by decide +kernel, by decide +kernel⟩
theorem kne_InvalidShare {C : Addr} (F : AtE K mg "InvalidShare" "InvalidShare.__init__" C s_InvalidShare_init ["name"]) (FP : PeC K mg) : KnE P w K mg base "InvalidShare" 1 C ["name"] := by
  refine kne_of F sc_InvalidShare rfl fun T hn f cdv Ar outer s H H0 E a us Q hl ha => ?_
  match us, hl with
  | [v], _ =>
    refine ⟨_, pss_cons (ps_expr (pe_peinit rfl FP (pa_cons (pv 0) (pa_cons pe_str pa_nil)))) (pss_one (ps_ost (pv 0) (pv 1))), fun D hD q0 q1 => ?_⟩
    refine ⟨_, rfl, a, C, _, rfl, Nat.le_of_ble_eq_true rfl, T, ha, v, rfl, _, rfl, a, C, rfl, T, hn _ (.head _), .inl ⟨ha, fun dx nd ne => ?_⟩⟩
    rw [hD]
    exact q1 (fun z => nomatch z) dx _ nd ne (fun b h1 h2 => by rw [upd_ne h1, upd_ne h2]) upd_same (by rw [upd_ne ne, upd_same]; rfl)
theorem sc_BadNumber : FnScope ["self", "n"] ["self", "n"] (defScope s_BadNumber_init) := ⟨rfl, rfl, rfl, by decide +kernel, rfl, by decide +kernel, by decide +kernel⟩
theorem kne_BadNumber {C : Addr} (F : AtE K mg "BadNumber" "BadNumber.__init__" C s_BadNumber_init ["n"]) (FP : PeC K mg) : KnE P w K mg base "BadNumber" 1 C ["n"] := by
  refine kne_of F sc_BadNumber rfl fun T hn f cdv Ar outer s H H0 E a us Q hl ha => ?_
  match us, hl with
  | [v], _ =>
    refine ⟨_, pss_cons (ps_expr (pe_peinit rfl FP (pa_cons (pv 0) (pa_cons pe_str pa_nil)))) (pss_one (ps_ost (pv 0) (pv 1))), fun D hD q0 q1 => ?_⟩
    refine ⟨_, rfl, a, C, _, rfl, Nat.le_of_ble_eq_true rfl, T, ha, v, rfl, _, rfl, a, C, rfl, T, hn _ (.head _), .inl ⟨ha, fun dx nd ne => ?_⟩⟩
    rw [hD]
    exact q1 (fun z => nomatch z) dx _ nd ne (fun b h1 h2 => by rw [upd_ne h1, upd_ne h2]) upd_same (by rw [upd_ne ne, upd_same]; rfl)
theorem sc_BadThrow : FnScope ["self"] ["self"] (defScope s_BadThrow_init) := ⟨rfl, rfl, rfl, by decide +kernel, rfl, by decide +kernel, by decide +kernel⟩
theorem kne_BadThrow {C : Addr} (F : AtE K mg "BadThrow" "BadThrow.__init__" C s_BadThrow_init []) (FP : PeC K mg) : KnE P w K mg base "BadThrow" 1 C [] := by
  refine kne_of F sc_BadThrow rfl fun T hn f cdv Ar outer s H H0 E a us Q hl ha => ?_
  match us, hl with
  | [], _ =>
    refine ⟨_, pss_one (ps_expr (pe_peinit rfl FP (pa_cons (pv 0) (pa_cons pe_str pa_nil)))), fun D hD q0 q1 => ?_⟩
    refine ⟨_, rfl, a, C, _, rfl, Nat.le_of_ble_eq_true rfl, T, ha, ?_⟩
    rw [hD]
    exact q0 rfl
theorem sc_Ended : FnScope ["self"] ["self"] (defScope s_Ended_init) := ⟨rfl, rfl, rfl, by decide +kernel, rfl, by decide +kernel, by decide +kernel⟩
theorem kne_Ended {C : Addr} (F : AtE K mg "Ended" "Ended.__init__" C s_Ended_init []) (FP : PeC K mg) : KnE P w K mg base "Ended" 1 C [] := by
  refine kne_of F sc_Ended rfl fun T hn f cdv Ar outer s H H0 E a us Q hl ha => ?_
  match us, hl with
  | [], _ =>
    refine ⟨_, pss_one (ps_expr (pe_peinit rfl FP (pa_cons (pv 0) (pa_cons pe_str pa_nil)))), fun D hD q0 q1 => ?_⟩
    refine ⟨_, rfl, a, C, _, rfl, Nat.le_of_ble_eq_true rfl, T, ha, ?_⟩
    rw [hD]
    exact q0 rfl
end
/-! ## tables.py -/
section
variable {P : Program} {w : World} {K : PySem.W.Frag} {mg : Str → Option Value} {base : Heap} {S CE CN CJ CC : Addr}
def shFs : List Str := ["lefts", "rights", "stays", "whole", "ratio"]
def shD (S : Addr) (l r s : Int) : D := .ins S shFs [.int l, .int r, .int s, .int (l + r + s), fr ((l : Rat) / (r : Rat))]
theorem shFs_nd : shFs.Nodup := by decide +kernel
/-- where a class of the text stands -/
structure AtC (K : PySem.W.Frag) (mg : Str → Option Value) (x qual : Str) (C : Addr) (st : Stmt) (ps : List Str) : Prop where
  ex : ∃ f fd, mg x = some (.ref C) ∧ Mk K C f ∧ Fun K "__init__" qual st f fd ∧ Binds K fd ps []
structure ShC (K : PySem.W.Frag) (S : Addr) : Prop where
  cls : Cls K S
  noa : ∀ f ∈ shFs, NoAttr K S f
theorem ShC.at (h : ShC K S) (i : Nat) {f : Str} (e : shFs[i]? = some f) : NoAttr K S f := h.noa f (List.mem_of_getElem? e)
def toI : D → Int
  | .int i => i
  | _ => 0
/-- the first share that is wrong -/
def badShare (l r s : D) : Option Str := if within l 1 9 then (if within r 1 9 then (if within s 0 9 then none else some "stay") else some "right") else some "left"
theorem within_int {d : D} {lo hi : Int} (h : within d lo hi = true) : ∃ i, d = .int i ∧ lo ≤ i ∧ i ≤ hi := by
  cases d with
  | int i =>
    obtain ⟨h1, h2⟩ := Bool.and_eq_true_iff.mp h
    exact ⟨i, rfl, of_decide_eq_true h1, of_decide_eq_true h2⟩
  | _ => cases h
theorem Sz.tiny {x : Int} (h1 : -1000000 ≤ x) (h2 : x ≤ 1000000) : Sz 20 x := Sz.small 20 (by omega) (by omega)
abbrev Typed (d : D) : Prop := ∃ t, dTy d = some t
theorem sc_Shares_init : FnScope ["self", "left", "right", "stay", "name", "value", "low"] ["self", "left", "right", "stay"] (defScope s_Shares_init) := ⟨rfl, rfl, rfl, by decide +kernel, rfl, by decide +kernel, by decide +kernel⟩
variable (P w K mg base S CE) in
abbrev Kn_Shares : Prop := KnC P w K mg base S "Shares" 3 S (fun i : D × D × D => Typed i.1 ∧ Typed i.2.1 ∧ Typed i.2.2) (fun i => badShare i.1 i.2.1 i.2.2 = none) (fun i => [i.1, i.2.1, i.2.2]) (fun i => shD S (toI i.1) (toI i.2.1) (toI i.2.2))
  (fun i c fs => ∃ nm, badShare i.1 i.2.1 i.2.2 = some nm ∧ c = CE ∧ fs = [(("name" : Str), D.str nm)])
theorem kn_Shares (F : AtC K mg "Shares" "Shares.__init__" S s_Shares_init ["self", "left", "right", "stay"]) (FC : ShC K S) (F1 : Kn_is_within P w K mg base S) (F2 : Kn_fraction P w K mg base S) (FE : KnE P w K mg base "InvalidShare" 1 CE ["name"]) (c1 : Co K mg S "MOST_SHARE" (.int 9)) : Kn_Shares P w K mg base S CE := by
  obtain ⟨f, fd, hm, M, F0, hb⟩ := F.ex
  refine ⟨f, fd, _, hm, M, hb, ini_ok F0 sc_Shares_init (fun _ => rfl) (fun a i => [.ow (some a) (.ins S [] []), .val i.1, .val i.2.1, .val i.2.2, .no, .no, .no]) (fun _ _ => rfl) fun cdv Ar outer s H H0 E a i G hc hr po hx => ?_⟩
  obtain ⟨l, r, st⟩ := i
  obtain ⟨tl, tr, ts⟩ := hc
  dsimp only at tl tr ts hx ⊢
  refine s_forT (gTup _ 3 (gNames [4, 5, 6])) (putT [4, 5, 6]) [4, 5, 6] (td_tup [4, 5, 6]) (pg_tup rfl (pgs_cons (pg_name (i := 4) sc_Shares_init.nd rfl (.inl rfl)) (pgs_cons (pg_name (i := 5) sc_Shares_init.nd rfl (.inl rfl)) (pgs_cons (pg_name (i := 6) sc_Shares_init.nd rfl (.inl rfl)) pgs_nil)))) ?_ po rfl
  refine tk_tup ?_; refine ta_cons ?_; refine tk_tup ?_; refine ta_cons ?_; refine tk_s ?_; refine ta_cons ?_
  refine tk_v 1 rfl ?_; refine ta_cons ?_; refine tk_i ?_; refine ta_nil ?_; refine ⟨lenOk (Nat.le_of_ble_eq_true rfl), ?_⟩; refine ta_cons ?_
  refine tk_tup ?_; refine ta_cons ?_; refine tk_s ?_; refine ta_cons ?_; refine tk_v 2 rfl ?_; refine ta_cons ?_
  refine tk_i ?_; refine ta_nil ?_; refine ⟨lenOk (Nat.le_of_ble_eq_true rfl), ?_⟩; refine ta_cons ?_; refine tk_tup ?_; refine ta_cons ?_
  refine tk_s ?_; refine ta_cons ?_; refine tk_v 3 rfl ?_; refine ta_cons ?_; refine tk_i ?_; refine ta_nil ?_
  refine ⟨lenOk (Nat.le_of_ble_eq_true rfl), ?_⟩; refine ta_nil ?_; refine ⟨lenOk (Nat.le_of_ble_eq_true rfl), ?_⟩
  refine ⟨fun j ρ => (1 ≤ j → within l 1 9 = true) ∧ (2 ≤ j → within r 1 9 = true) ∧ (3 ≤ j → within st 0 9 = true) ∧ ∃ t1 t2 t3, ρ = [.ow (some a) (.ins S [] []), .val l, .val r, .val st, t1, t2, t3], ⟨fun z => by omega, fun z => by omega, fun z => by omega, _, _, _, rfl⟩, ?_, ?_⟩
  · rintro j d ρ' hd ⟨h1, h2, h3, t1, t2, t3, rfl⟩
    obtain ⟨nm, v, lo, rfl, tv, hok, hbad⟩ : ∃ nm v lo, d = .tup [.str nm, v, .int lo] ∧ Typed v ∧ (within v lo 9 = true → ((1 ≤ j + 1 → within l 1 9 = true) ∧ (2 ≤ j + 1 → within r 1 9 = true) ∧ (3 ≤ j + 1 → within st 0 9 = true))) ∧ (within v lo 9 = false → badShare l r st = some nm) := by
      match j, hd with
      | 0, hd =>
        cases hd
        exact ⟨_, _, _, rfl, tl, fun z => ⟨fun _ => z, fun z => by omega, fun z => by omega⟩, fun z => by unfold badShare; rw [z]; rfl⟩
      | 1, hd =>
        cases hd
        have e1 := h1 (by omega)
        exact ⟨_, _, _, rfl, tr, fun z => ⟨fun _ => e1, fun _ => z, fun z => by omega⟩, fun z => by unfold badShare; rw [e1, z]; rfl⟩
      | 2, hd =>
        cases hd
        have e1 := h1 (by omega)
        have e2 := h2 (by omega)
        exact ⟨_, _, _, rfl, ts, fun z => ⟨fun _ => e1, fun _ => e2, fun _ => z⟩, fun z => by unfold badShare; rw [e1, e2, z]; rfl⟩
      | j + 3, hd => cases hd
    refine ⟨_, ⟨_, rfl, rfl, rfl⟩, ?_⟩
    refine s_if ?_; refine tt_not ?_; refine tt_val ?_; refine tk_knP F1 hr ?_; refine ta_cons ?_; refine tk_v 5 rfl ?_
    refine ta_cons ?_; refine tk_v 6 rfl ?_; refine ta_cons ?_; refine tk_co c1 ?_; refine ta_nil ?_; refine ⟨(_, _, _), rfl, tv, ?_⟩
    refine cB_b (fun h => ?_) (fun h => ?_)
    · refine s_raise FE hr (rz_def (M := pur) fun c fs od G1 H1 g _ => hx c fs od G1 H1 g) rfl (fun z => nomatch z) (Nat.le_of_ble_eq_true rfl) ?_
      refine ta_cons ?_; refine tk_v 4 rfl ?_; refine ta_nil ?_
      exact ⟨rfl, nm, hbad (by simpa using h), rfl, rfl⟩
    · refine s_end (s_turn ?_)
      obtain ⟨q1, q2, q3⟩ := hok (by simpa using h)
      exact ⟨q1, q2, q3, _, _, _, rfl⟩
  · rintro ρ' ⟨h1, h2, h3, t1, t2, t3, rfl⟩
    have b1 := h1 (Nat.le_of_ble_eq_true rfl)
    have b2 := h2 (Nat.le_of_ble_eq_true rfl)
    have b3 := h3 (Nat.le_of_ble_eq_true rfl)
    have hbad : badShare l r st = none := by unfold badShare; rw [b1, b2, b3]; rfl
    obtain ⟨li, rfl, l1, l2⟩ := within_int b1
    obtain ⟨ri, rfl, r1, r2⟩ := within_int b2
    obtain ⟨si, rfl, s1, s2⟩ := within_int b3
    refine s_fst 0 rfl FC.cls (FC.at 0 rfl) (by decide +kernel) (by decide) ?_
    refine tk_v 1 rfl ?_
    refine s_fst 0 rfl FC.cls (FC.at 1 rfl) (by decide +kernel) (by decide) ?_
    refine tk_v 2 rfl ?_
    refine s_fst 0 rfl FC.cls (FC.at 2 rfl) (by decide +kernel) (by decide) ?_
    refine tk_v 3 rfl ?_
    refine s_fst 0 rfl FC.cls (FC.at 3 rfl) (by decide +kernel) (by decide) ?_
    refine tk_bin d_add ?_; refine tk_bin d_add ?_; refine tk_v 1 rfl ?_; refine tk_v 2 rfl ?_; refine tk_v 3 rfl ?_
    refine s_fst 0 rfl FC.cls (FC.at 4 rfl) (by decide +kernel) (by decide) ?_
    refine tk_knP F2 hr ?_; refine ta_cons ?_; refine tk_v 1 rfl ?_; refine ta_cons ?_; refine tk_v 2 rfl ?_; refine ta_nil ?_
    refine ⟨(_, _), rfl, ⟨by show ri ≠ 0; omega, (Sz.tiny (by omega) (by omega)).mono (by decide), (Sz.tiny (by omega) (by omega)).mono (by decide)⟩, ?_⟩
    rw [Rat.divInt_eq_div]
    exact s_nil fun kp σ H' G' s' g' => ⟨_, G', s', hbad, _, rfl⟩
theorem badShare_ok {l r s : Int} (h1 : 1 ≤ l) (h2 : l ≤ 9) (h3 : 1 ≤ r) (h4 : r ≤ 9) (h5 : 0 ≤ s) (h6 : s ≤ 9) : badShare (.int l) (.int r) (.int s) = none := by
  have key : ∀ {x lo : Int}, lo ≤ x → x ≤ 9 → within (.int x) lo 9 = true := fun {x lo} a b => by
    show (decide (lo ≤ x) && decide (x ≤ 9)) = true
    rw [decide_eq_true a, decide_eq_true b]
    rfl
  unfold badShare
  rw [key h1 h2, key h3 h4, key h5 h6]
  rfl
/-- shares that are right -/
structure Good (l r s : Int) : Prop where
  l1 : 1 ≤ l
  l9 : l ≤ 9
  r1 : 1 ≤ r
  r9 : r ≤ 9
  s0 : 0 ≤ s
  s9 : s ≤ 9
theorem Good.bad {l r s : Int} (h : Good l r s) : badShare (.int l) (.int r) (.int s) = none := badShare_ok h.l1 h.l9 h.r1 h.r9 h.s0 h.s9
theorem Good.mir {l r s : Int} (h : Good l r s) : Good r l s := ⟨h.r1, h.r9, h.l1, h.l9, h.s0, h.s9⟩
theorem Good.tiny {l r s : Int} (h : Good l r s) : Sz 20 l ∧ Sz 20 r ∧ Sz 20 s ∧ Sz 20 (l + r + s) ∧ Sz 20 (l + r) ∧ Sz 20 (r - l) := by
  obtain ⟨a, b, c, d, e, f⟩ := h
  exact ⟨Sz.tiny (by omega) (by omega), Sz.tiny (by omega) (by omega), Sz.tiny (by omega) (by omega), Sz.tiny (by omega) (by omega), Sz.tiny (by omega) (by omega), Sz.tiny (by omega) (by omega)⟩
theorem sc_need_number : FnScope ["n", "low", "most"] ["n", "low", "most"] (defScope s_need_number) := ⟨rfl, rfl, rfl, by decide +kernel, rfl, by decide +kernel, by decide +kernel⟩
variable (P w K mg base S CN) in
abbrev Kn_need_number : Prop := Kn P w K mg base S "need_number" 3 (fun _ : D × Int × Int => pur) (fun i => Typed i.1) (fun i => [i.1, .int i.2.1, .int i.2.2]) (fun i d => within i.1 i.2.1 i.2.2 = true ∧ d = .non)
  (fun i c fs => within i.1 i.2.1 i.2.2 = false ∧ c = CN ∧ fs = [(("n" : Str), i.1)])
theorem kn_need_number (F : At K mg "need_number" s_need_number ["n", "low", "most"]) (F1 : Kn_is_within P w K mg base S) (FE : KnE P w K mg base "BadNumber" 1 CN ["n"]) : Kn_need_number P w K mg base S CN := by
  refine kn_def F sc_need_number (fun _ => rfl) (fun i => [.val i.1, .val (.int i.2.1), .val (.int i.2.2)]) (fun _ => rfl) fun f cdv Ar outer s H E i G hc hr po hx => ?_
  obtain ⟨d, lo, hi⟩ := i
  dsimp only at hc hx ⊢
  refine s_if ?_; refine tt_not ?_; refine tt_val ?_; refine tk_knP F1 hr ?_; refine ta_cons ?_; refine tk_v 0 rfl ?_
  refine ta_cons ?_; refine tk_v 1 rfl ?_; refine ta_cons ?_; refine tk_v 2 rfl ?_; refine ta_nil ?_; refine ⟨(_, _, _), rfl, hc, ?_⟩
  refine cB_b (fun h => ?_) (fun h => ?_)
  · refine s_raise FE hr (rz_def hx) rfl (fun z => nomatch z) (Nat.le_of_ble_eq_true rfl) ?_
    refine ta_cons ?_; refine tk_v 0 rfl ?_; refine ta_nil ?_
    exact ⟨rfl, by simpa using h, rfl, rfl⟩
  · exact s_end (s_fall ⟨by simpa using h, rfl⟩)
/-- an integer from lo on -/
def from1 (lo : Int) : D → Bool
  | .int i => decide (lo ≤ i)
  | _ => false
theorem from1_nw {lo : Int} {d : D} (h : isWh d = false) : from1 lo d = false := by
  cases d <;> first | rfl | cases h
theorem isWh_int {d : D} (h : isWh d = true) : ∃ i, d = .int i := by
  cases d with
  | int i => exact ⟨i, rfl⟩
  | _ => cases h
end
/-! ## lasts.py -/
section
variable {P : Program} {w : World} {K : PySem.W.Frag} {mg : Str → Option Value} {base : Heap} {S CE CN CJ CC : Addr}
theorem Room.hu {n : Nat} {A : Around} (h : Room n A) : A.units + 64 < cLine := by have := h.un; omega
theorem Room.hu1 {n : Nat} {A : Around} (h : Room n A) : A.units + 1 < cLine := by have := h.un; omega
theorem tup_fr {a b : Nat} : (D.tup [.int (a : Int), .int 1]) = fr (a : Rat) := rfl
theorem Good.q {l r s : Int} (h : Good l r s) : R9 ((l : Rat) / (r : Rat)) := .of h.l1 h.l9 h.r1 h.r9
theorem atI_last {α : Type} {xs : List α} {d : α} : atI (xs ++ [d]) (-1) = some d := by
  have e : ixN (xs ++ [d]).length (-1) = some xs.length := by
    unfold ixN
    rw [List.length_append, List.length_singleton, if_neg (by omega), if_pos (by omega)]
    congr 1
    omega
  unfold atI
  rw [e]
  exact List.getElem?_concat_length
end
/-! ## times.py -/
section
variable {P : Program} {w : World} {K : PySem.W.Frag} {mg : Str → Option Value} {base : Heap} {S CE CN CJ CC : Addr}
end
/-! ## the law's own defs -/
section
variable {P : Program} {w : World} {K : PySem.W.Frag} {mg : Str → Option Value} {base : Heap} {S CE CN CJ CC : Addr}
theorem sc__law_frac : FnScope ["_law_number", "_law_parts", "_law_one", "_law_mate", "_law_sign"] ["_law_number", "_law_parts"] (defScope s__law_frac) := ⟨rfl, rfl, rfl, by decide +kernel, rfl, by decide +kernel, by decide +kernel⟩
variable (P w K mg base S) in
abbrev Kn__law_frac : Prop := KnP P w K mg base S "_law_frac" 1 (fun i : Int × Int => i.2 ≠ 0 ∧ Sz 8005 i.1 ∧ Sz 8005 i.2) (fun i => [.int i.1, .int i.2]) (fun i => fr (divInt i.1 i.2))
theorem kn__law_frac (F : At K mg "_law_frac" s__law_frac ["_law_number", "_law_parts"]) (m1 : mg "abs" = none) : Kn__law_frac P w K mg base S := by
  refine kn_def F sc__law_frac (fun _ => rfl) (fun i => [.val (.int i.1), .val (.int i.2), .no, .no, .no]) (fun _ => rfl) fun f cdv Ar outer s H E i G hc hr po hx => ?_
  obtain ⟨a, b⟩ := i
  obtain ⟨h0, ha, hb⟩ := hc
  dsimp only at ha hb h0 ⊢
  refine s_par 2 3 (ta_two ?_) rfl sc__law_frac.nd; refine tk_abs m1 ?_; refine tk_v 0 rfl ?_; refine tk_abs m1 ?_; refine tk_v 1 rfl ?_
  refine s_while (fun m ρ => ∃ x y : Nat, m = y ∧ ρ = [.val (.int a), .val (.int b), .val (.int x), .val (.int y), .no] ∧ x.gcd y = a.gcd b) b.natAbs ⟨_, _, rfl, rfl, rfl⟩ ?_ po
  rintro m ρ' ⟨x, y, rfl, rfl, hg⟩
  refine tt_cmp d_gt ?_; refine tk_v 3 rfl ?_; refine tk_i ?_
  refine cB_dec (fun h1 => ?_) (fun h1 => ?_)
  · have hy0 : 0 < m := by omega
    refine s_par 2 3 (ta_two ?_) rfl sc__law_frac.nd; refine tk_v 3 rfl ?_; refine tk_bin d_mod ?_; refine tk_v 2 rfl ?_; refine tk_v 3 rfl ?_; refine ⟨by omega, ?_⟩
    show Tss _ [.val (.int a), .val (.int b), .val (.int m), .val (.int ((x : Int) % (m : Int))), .no] _ _
    rw [← Int.natCast_emod]
    refine s_nil fun kp σ H G' s' g' => ⟨x % m, _, G', Nat.mod_lt _ hy0, ⟨m, x % m, rfl, rfl, ?_⟩, s', g'⟩
    rw [← hg, Nat.gcd_comm x m, Nat.gcd_rec m x, Nat.gcd_comm]
  · have hm : m = 0 := by omega
    subst hm
    rw [Nat.gcd_zero_right] at hg
    subst hg
    have hg0 : (0 : Int) < ((a.gcd b : Nat) : Int) := by
      have := gcd_pos_of (n := a) (d := b) h0
      omega
    have hgs : Sz 8005 ((a.gcd b : Nat) : Int) := gcd_sz h0 hb
    refine s_set 4 ?_ sc__law_frac.nd; refine tk_if ?_; refine tt_cmp d_gt ?_; refine tk_v 1 rfl ?_; refine tk_i ?_
    refine cB_dec (fun h2 => ?_) (fun h2 => ?_)
    · refine tk_i ?_; refine s_ret ?_; refine tk_tup ?_; refine ta_cons ?_; refine tk_bin d_fdiv ?_; refine tk_bin d_mul ?_
      refine tk_v 4 rfl ?_; refine tk_v 0 rfl ?_; refine ⟨(Sz.tiny (x := 1) (by decide) (by decide)).mulW ha, ?_⟩; refine tk_v 2 rfl ?_; refine ⟨hgs.divW hg0, ?_⟩; refine ta_cons ?_
      refine tk_bin d_fdiv ?_; refine tk_bin d_mul ?_; refine tk_v 4 rfl ?_; refine tk_v 1 rfl ?_; refine ⟨(Sz.tiny (x := 1) (by decide) (by decide)).mulW hb, ?_⟩; refine tk_v 2 rfl ?_
      refine ⟨hgs.divW hg0, ?_⟩; refine ta_nil ?_; refine ⟨lenOk (Nat.le_of_ble_eq_true rfl), ?_⟩
      obtain ⟨e1, e2⟩ := frac_pos a b h2
      show D.tup [.int (1 * a / _), .int (1 * b / _)] = D.tup [.int _, .int _]
      rw [e1, e2, Int.one_mul, Int.one_mul]
    · refine tk_bin d_sub ?_; refine tk_i ?_; refine tk_i ?_; refine s_ret ?_; refine tk_tup ?_; refine ta_cons ?_
      refine tk_bin d_fdiv ?_; refine tk_bin d_mul ?_; refine tk_v 4 rfl ?_; refine tk_v 0 rfl ?_; refine ⟨(Sz.tiny (x := 0 - 1) (by decide) (by decide)).mulW ha, ?_⟩; refine tk_v 2 rfl ?_
      refine ⟨hgs.divW hg0, ?_⟩; refine ta_cons ?_; refine tk_bin d_fdiv ?_; refine tk_bin d_mul ?_; refine tk_v 4 rfl ?_; refine tk_v 1 rfl ?_
      refine ⟨(Sz.tiny (x := 0 - 1) (by decide) (by decide)).mulW hb, ?_⟩; refine tk_v 2 rfl ?_; refine ⟨hgs.divW hg0, ?_⟩; refine ta_nil ?_; refine ⟨lenOk (Nat.le_of_ble_eq_true rfl), ?_⟩
      obtain ⟨e1, e2⟩ := frac_neg a b (by omega)
      show D.tup [.int ((0 - 1) * a / _), .int ((0 - 1) * b / _)] = D.tup [.int _, .int _]
      rw [e1, e2, Int.gcd_neg, Int.neg_gcd, show (0 - 1) * a = -a by omega, show (0 - 1) * b = -b by omega]
theorem sc__law_sum : FnScope ["_law_one", "_law_mate"] ["_law_one", "_law_mate"] (defScope s__law_sum) := ⟨rfl, rfl, rfl, by decide +kernel, rfl, by decide +kernel, by decide +kernel⟩
variable (P w K mg base S) in
/-- two fractions in, one out -/
abbrev Kn_l2 (x : Str) (f : Rat → Rat → Rat) : Prop := KnP P w K mg base S x 2 (fun i : Rat × Rat => QSz 4000 i.1 ∧ QSz 4000 i.2) (fun i => [fr i.1, fr i.2]) (fun i => fr (f i.1 i.2))
theorem kn__law_sum (F : At K mg "_law_sum" s__law_sum ["_law_one", "_law_mate"]) (F1 : Kn__law_frac P w K mg base S) : Kn_l2 P w K mg base S "_law_sum" (fun a b => a + b) := by
  refine kn_def F sc__law_sum (fun _ => rfl) (fun i => [.val (fr i.1), .val (fr i.2)]) (fun _ => rfl) fun f cdv Ar outer s H E i G hc hr po hx => ?_
  obtain ⟨a, b⟩ := i
  obtain ⟨ha, hb⟩ := hc
  dsimp only at ha hb ⊢
  have h1 := ha.num.mul hb.den
  have h2 := hb.num.mul ha.den
  have h3 := ha.den.mul hb.den
  refine s_ret ?_; refine tk_knP F1 hr ?_; refine ta_cons ?_; refine tk_bin d_add ?_; refine tk_bin d_mul ?_; refine tk_ix ?_
  refine tk_v 0 rfl ?_; refine tk_i ?_; refine ⟨_, rfl, ?_⟩; refine tk_ix ?_; refine tk_v 1 rfl ?_; refine tk_i ?_
  refine ⟨_, rfl, ?_⟩; refine ⟨ha.num.mulW hb.den, ?_⟩; refine tk_bin d_mul ?_; refine tk_ix ?_; refine tk_v 1 rfl ?_; refine tk_i ?_
  refine ⟨_, rfl, ?_⟩; refine tk_ix ?_; refine tk_v 0 rfl ?_; refine tk_i ?_; refine ⟨_, rfl, ?_⟩; refine ⟨hb.num.mulW ha.den, ?_⟩
  refine ta_cons ?_; refine tk_bin d_mul ?_; refine tk_ix ?_; refine tk_v 0 rfl ?_; refine tk_i ?_; refine ⟨_, rfl, ?_⟩
  refine tk_ix ?_; refine tk_v 1 rfl ?_; refine tk_i ?_; refine ⟨_, rfl, ?_⟩; refine ⟨ha.den.mulW hb.den, ?_⟩; refine ta_nil ?_
  refine ⟨(_, _), rfl, ⟨?_, (h1.add h2 : Sz 8001 _).mono (by omega), h3.mono (by omega)⟩, ?_⟩
  · exact Int.ne_of_gt (Int.mul_pos (den_pos a) (den_pos b))
  · show fr _ = fr _
    rw [q_add]
theorem sc__law_times : FnScope ["_law_one", "_law_mate"] ["_law_one", "_law_mate"] (defScope s__law_times) := ⟨rfl, rfl, rfl, by decide +kernel, rfl, by decide +kernel, by decide +kernel⟩
theorem kn__law_times (F : At K mg "_law_times" s__law_times ["_law_one", "_law_mate"]) (F1 : Kn__law_frac P w K mg base S) : Kn_l2 P w K mg base S "_law_times" (fun a b => a * b) := by
  refine kn_def F sc__law_times (fun _ => rfl) (fun i => [.val (fr i.1), .val (fr i.2)]) (fun _ => rfl) fun f cdv Ar outer s H E i G hc hr po hx => ?_
  obtain ⟨a, b⟩ := i
  obtain ⟨ha, hb⟩ := hc
  dsimp only at ha hb ⊢
  have h1 := ha.num.mul hb.num
  have h3 := ha.den.mul hb.den
  refine s_ret ?_; refine tk_knP F1 hr ?_; refine ta_cons ?_; refine tk_bin d_mul ?_; refine tk_ix ?_; refine tk_v 0 rfl ?_
  refine tk_i ?_; refine ⟨_, rfl, ?_⟩; refine tk_ix ?_; refine tk_v 1 rfl ?_; refine tk_i ?_; refine ⟨_, rfl, ?_⟩
  refine ⟨ha.num.mulW hb.num, ?_⟩; refine ta_cons ?_; refine tk_bin d_mul ?_; refine tk_ix ?_; refine tk_v 0 rfl ?_; refine tk_i ?_
  refine ⟨_, rfl, ?_⟩; refine tk_ix ?_; refine tk_v 1 rfl ?_; refine tk_i ?_; refine ⟨_, rfl, ?_⟩; refine ⟨ha.den.mulW hb.den, ?_⟩
  refine ta_nil ?_
  refine ⟨(_, _), rfl, ⟨?_, h1.mono (by omega), h3.mono (by omega)⟩, ?_⟩
  · exact Int.ne_of_gt (Int.mul_pos (den_pos a) (den_pos b))
  · show fr _ = fr _
    rw [q_mul]
theorem sc__law_less : FnScope ["_law_one", "_law_mate"] ["_law_one", "_law_mate"] (defScope s__law_less) := ⟨rfl, rfl, rfl, by decide +kernel, rfl, by decide +kernel, by decide +kernel⟩
variable (P w K mg base S) in
abbrev Kn__law_less : Prop := KnP P w K mg base S "_law_less" 1 (fun i : Rat × Rat => QSz 4000 i.1 ∧ QSz 4000 i.2) (fun i => [fr i.1, fr i.2]) (fun i => .bl (decide (i.1 < i.2)))
theorem kn__law_less (F : At K mg "_law_less" s__law_less ["_law_one", "_law_mate"]) : Kn__law_less P w K mg base S := by
  refine kn_def F sc__law_less (fun _ => rfl) (fun i => [.val (fr i.1), .val (fr i.2)]) (fun _ => rfl) fun f cdv Ar outer s H E i G hc hr po hx => ?_
  obtain ⟨a, b⟩ := i
  obtain ⟨ha, hb⟩ := hc
  dsimp only at ha hb ⊢
  refine s_ret ?_; refine tk_cmp d_lt ?_; refine tk_bin d_mul ?_; refine tk_ix ?_; refine tk_v 0 rfl ?_; refine tk_i ?_
  refine ⟨_, rfl, ?_⟩; refine tk_ix ?_; refine tk_v 1 rfl ?_; refine tk_i ?_; refine ⟨_, rfl, ?_⟩; refine ⟨ha.num.mulW hb.den, ?_⟩
  refine tk_bin d_mul ?_; refine tk_ix ?_; refine tk_v 1 rfl ?_; refine tk_i ?_; refine ⟨_, rfl, ?_⟩; refine tk_ix ?_
  refine tk_v 0 rfl ?_; refine tk_i ?_; refine ⟨_, rfl, ?_⟩; refine ⟨hb.num.mulW ha.den, ?_⟩
  show D.bl _ = D.bl _
  rw [q_lt]
theorem sc__law_total : FnScope ["_law_some", "_law_found", "_law_one"] ["_law_some"] (defScope s__law_total) := ⟨rfl, rfl, rfl, by decide +kernel, rfl, by decide +kernel, by decide +kernel⟩
variable (P w K mg base S) in
abbrev Kn__law_total : Prop := KnP P w K mg base S "_law_total" 3 (fun qs : List Rat => (∀ q ∈ qs, QSz 4000 q) ∧ ∀ j ≤ qs.length, QSz 4000 (qs.take j).sum) (fun qs => [.lst (qs.map fr)]) (fun qs => fr qs.sum)
theorem kn__law_total (F : At K mg "_law_total" s__law_total ["_law_some"]) (F1 : Kn_l2 P w K mg base S "_law_sum" (fun a b => a + b)) : Kn__law_total P w K mg base S := by
  refine kn_def F sc__law_total (fun _ => rfl) (fun i => [.val (.lst (i.map fr)), .no, .no]) (fun _ => rfl) fun f cdv Ar outer s H E qs G hc hr po hx => ?_
  obtain ⟨hq, hs⟩ := hc
  dsimp only at hq hs ⊢
  refine s_set 1 ?_ sc__law_total.nd; refine tk_tup ?_; refine ta_cons ?_; refine tk_i ?_; refine ta_cons ?_; refine tk_i ?_
  refine ta_nil ?_; refine ⟨lenOk (Nat.le_of_ble_eq_true rfl), ?_⟩
  refine s_forL 2 ?_ po rfl sc__law_total.nd
  refine tk_v 0 rfl ?_
  refine ⟨fun j ρ => ∃ t, ρ = [.val (.lst (qs.map fr)), .val (fr (qs.take j).sum), t], ⟨_, rfl⟩, ?_, ?_⟩
  · rintro j d ρ' hj ⟨t, rfl⟩
    rw [List.getElem?_map] at hj
    obtain ⟨q, hq', rfl⟩ := Option.map_eq_some_iff.mp hj
    have hl : j < qs.length := (List.getElem?_eq_some_iff.mp hq').1
    refine s_set 1 ?_ sc__law_total.nd; refine tk_knP F1 hr ?_; refine ta_cons ?_; refine tk_v 1 rfl ?_; refine ta_cons ?_; refine tk_v 2 rfl ?_
    refine ta_nil ?_
    refine ⟨(_, _), rfl, ⟨hs j (by omega), hq q (List.mem_of_getElem? hq')⟩, ?_⟩
    refine s_turn ⟨.val (fr q), ?_⟩
    rw [sum_take_succ hq']
    rfl
  · rintro ρ' ⟨t, rfl⟩
    refine s_ret ?_; refine tk_v 1 rfl ?_
    show fr _ = fr _
    rw [List.length_map, List.take_length]
theorem one_over {W : Int} (h : 0 < W) : D.tup [.int 1, .int W] = fr (divInt 1 W) := by
  obtain ⟨e1, e2⟩ := frac_pos 1 W h
  show _ = D.tup [.int _, .int _]
  rw [e1, e2, Int.one_gcd]
  show D.tup [.int 1, .int W] = D.tup [.int (1 / 1), .int (W / 1)]
  rw [Int.ediv_one, Int.ediv_one]
theorem deq_self {n : Nat} {d : D} (h : dOk n d = true) : deq d d = true := PySem.SeqAt.eqv_refl _ (dOk_lay n h).1
theorem dOk_told {s : Str} {d : D} (hs : PyData.strOk s = true) (h : dOk 7 d = true) : dOk 8 (.lst [.str s, d]) = true := by
  rw [dOk, List.all_cons, List.all_cons, List.all_nil, h]
  have : dOk 7 (.str s) = true := hs
  rw [this]
  rfl
theorem deq_fr_self {q : Rat} : deq (fr q) (fr q) = true := by rw [deq_fr, decide_eq_true rfl]
theorem frmap {α : Type} (xs : List α) (g : α → Rat) : (xs.map fun j => fr (g j)) = (xs.map g).map fr := by
  rw [List.map_map]
  rfl
theorem cutD_from {xs : List D} {k : Nat} (h : k ≤ xs.length) : Fz.cutD xs (some (k : Int)) none = xs.drop k := by
  unfold Fz.cutD
  rw [HT.sIx_none, HT.sIx_nat, Nat.min_eq_left h]
  exact List.take_of_length_le (by rw [List.length_drop]; omega)
theorem flat_one {m : Nat} {d : D} : (List.replicate m [d]).flatten = List.replicate m d := by
  induction m with
  | zero => rfl
  | succ m ih => rw [List.replicate_succ, List.flatten_cons, ih, List.replicate_succ]; rfl
/-- an item of a row -/
theorem atI_some {α : Type} {xs : List α} {v : Int} (h0 : 0 ≤ v) (h1 : v < xs.length) : ∃ d, atI xs v = some d ∧ d ∈ xs := by
  obtain ⟨n, rfl⟩ := Int.eq_ofNat_of_zero_le h0
  have hn : n < xs.length := by omega
  exact ⟨xs[n], atI_nat (List.getElem?_eq_getElem hn), List.getElem_mem hn⟩
theorem atI_map {α β : Type} {xs : List α} {g : α → β} {v : Int} (h0 : 0 ≤ v) (h1 : v < xs.length) : ∃ x, x ∈ xs ∧ atI (xs.map g) v = some (g x) := by
  obtain ⟨n, rfl⟩ := Int.eq_ofNat_of_zero_le h0
  have hn : n < xs.length := by omega
  exact ⟨xs[n], List.getElem_mem hn, atI_nat (by rw [List.getElem?_map, List.getElem?_eq_getElem hn]; rfl)⟩
theorem atI_fr {qs : List Rat} {i : Nat} {q : Rat} (h : qs[i]? = some q) : atI (qs.map fr) (i : Int) = some (fr q) := atI_nat (by rw [List.getElem?_map, h]; rfl)
theorem atI_getD {qs : List Rat} {i : Nat} (h : i < qs.length) : atI (qs.map fr) (i : Int) = some (fr (qs.getD i 0)) := atI_fr (by rw [List.getD_eq_getElem?_getD, List.getElem?_eq_getElem h]; rfl)
def dK : List Key := [.inr "left", .inr "right", .inr "stay"]
theorem dK_nd : dK.Nodup := by decide +kernel
/-- a draw of shares -/
def dD (l r s : Int) : D := .dct dK [.int l, .int r, .int s]
def LR : List (Int × Int) := [(1, 1), (1, 2), (2, 1), (3, 2), (2, 3), (1, 9), (9, 1), (4, 4), (5, 3)]
def ST : List Int := [0, 0, 1, 2, 9]
theorem good_of {p : Int × Int} {st : Int} (hp : p ∈ LR) (hs : st ∈ ST) : Good p.1 p.2 st := by
  have h1 : ∀ p ∈ LR, 1 ≤ p.1 ∧ p.1 ≤ 9 ∧ 1 ≤ p.2 ∧ p.2 ≤ 9 := by decide
  have h2 : ∀ s ∈ ST, 0 ≤ s ∧ s ≤ 9 := by decide
  obtain ⟨a, b, c, d⟩ := h1 p hp
  obtain ⟨e, f⟩ := h2 st hs
  exact ⟨a, b, c, d, e, f⟩
theorem sc__law_drawn : FnScope ["_law_row", "_law_left", "_law_right"] ["_law_row"] (defScope s__law_drawn) := ⟨rfl, rfl, rfl, by decide +kernel, rfl, by decide +kernel, by decide +kernel⟩
variable (P w K mg base S) in
abbrev Kn__law_drawn : Prop := Kn P w K mg base S "_law_drawn" 2 (fun i : Addr => rowM K i) (fun _ => True) (fun i => [.ref i]) (fun _ d => ∃ p st, p ∈ LR ∧ st ∈ ST ∧ d = dD p.1 p.2 st) (fun _ _ _ => False)
theorem kn__law_drawn (F : At K mg "_law_drawn" s__law_drawn ["_law_row"]) (F1 : Kn_taken P w K mg base S) : Kn__law_drawn P w K mg base S := by
  refine kn_def F sc__law_drawn (fun _ => rfl) (fun i => [.val (.ref i), .no, .no]) (fun _ => rfl) fun f cdv Ar outer s H E q G hc hr po hx => ?_
  refine s_unp [1,2] ?_ ?hg ?hc; case hc => rfl
  case hg => exact pgs_cons (pg_name (i := 1) sc__law_drawn.nd rfl (.inl rfl)) (pgs_cons (pg_name (i := 2) sc__law_drawn.nd rfl (.inl rfl)) (pgs_nil))
  refine tk_ix ?_; refine tk_lst ?_; refine ta_cons ?_; refine tk_tup ?_; refine ta_cons ?_
  refine tk_i ?_; refine ta_cons ?_; refine tk_i ?_; refine ta_nil ?_; refine ⟨lenOk (Nat.le_of_ble_eq_true rfl), ?_⟩; refine ta_cons ?_
  refine tk_tup ?_; refine ta_cons ?_; refine tk_i ?_; refine ta_cons ?_; refine tk_i ?_; refine ta_nil ?_
  refine ⟨lenOk (Nat.le_of_ble_eq_true rfl), ?_⟩; refine ta_cons ?_; refine tk_tup ?_; refine ta_cons ?_; refine tk_i ?_; refine ta_cons ?_
  refine tk_i ?_; refine ta_nil ?_; refine ⟨lenOk (Nat.le_of_ble_eq_true rfl), ?_⟩; refine ta_cons ?_; refine tk_tup ?_; refine ta_cons ?_
  refine tk_i ?_; refine ta_cons ?_; refine tk_i ?_; refine ta_nil ?_; refine ⟨lenOk (Nat.le_of_ble_eq_true rfl), ?_⟩; refine ta_cons ?_
  refine tk_tup ?_; refine ta_cons ?_; refine tk_i ?_; refine ta_cons ?_; refine tk_i ?_; refine ta_nil ?_
  refine ⟨lenOk (Nat.le_of_ble_eq_true rfl), ?_⟩; refine ta_cons ?_; refine tk_tup ?_; refine ta_cons ?_; refine tk_i ?_; refine ta_cons ?_
  refine tk_i ?_; refine ta_nil ?_; refine ⟨lenOk (Nat.le_of_ble_eq_true rfl), ?_⟩; refine ta_cons ?_; refine tk_tup ?_; refine ta_cons ?_
  refine tk_i ?_; refine ta_cons ?_; refine tk_i ?_; refine ta_nil ?_; refine ⟨lenOk (Nat.le_of_ble_eq_true rfl), ?_⟩; refine ta_cons ?_
  refine tk_tup ?_; refine ta_cons ?_; refine tk_i ?_; refine ta_cons ?_; refine tk_i ?_; refine ta_nil ?_
  refine ⟨lenOk (Nat.le_of_ble_eq_true rfl), ?_⟩; refine ta_cons ?_; refine tk_tup ?_; refine ta_cons ?_; refine tk_i ?_; refine ta_cons ?_
  refine tk_i ?_; refine ta_nil ?_; refine ⟨lenOk (Nat.le_of_ble_eq_true rfl), ?_⟩; refine ta_nil ?_; refine ⟨lenOk (Nat.le_of_ble_eq_true rfl), ?_⟩
  refine tk_taken F1 hr 0 rfl rfl ?_; refine tk_i ?_; refine ⟨_, rfl, by decide, by decide, fun v h1 h2 => ?_⟩
  obtain ⟨p, hp, e⟩ := atI_map (xs := LR) (g := fun p => D.tup [.int p.1, .int p.2]) h1 h2
  refine ⟨_, e, rfl, ?_⟩
  refine s_ret ?_
  refine tk_disp3 dK_nd ?_
  refine tk_v 1 rfl ?_; refine tk_v 2 rfl ?_; refine tk_ix ?_; refine tk_lst ?_; refine ta_cons ?_; refine tk_i ?_
  refine ta_cons ?_; refine tk_i ?_; refine ta_cons ?_; refine tk_i ?_; refine ta_cons ?_; refine tk_i ?_
  refine ta_cons ?_; refine tk_i ?_; refine ta_nil ?_; refine ⟨lenOk (Nat.le_of_ble_eq_true rfl), ?_⟩; refine tk_taken F1 hr 0 rfl rfl ?_; refine tk_i ?_
  refine ⟨_, rfl, by decide, by decide, fun v h3 h4 => ?_⟩
  obtain ⟨st, hs, e⟩ := atI_map (xs := ST) (g := D.int) h3 h4
  exact ⟨_, e, p, st, hp, hs, rfl⟩
theorem typed_int {i : Int} : Typed (.int i) := ⟨_, rfl⟩
theorem sc__law_made : FnScope ["_law_d"] ["_law_d"] (defScope s__law_made) := ⟨rfl, rfl, rfl, by decide +kernel, rfl, by decide +kernel, by decide +kernel⟩
variable (P w K mg base S) in
abbrev Kn__law_made : Prop := KnP P w K mg base S "_law_made" 5 (fun i : Int × Int × Int => Good i.1 i.2.1 i.2.2) (fun i => [dD i.1 i.2.1 i.2.2]) (fun i => shD S i.1 i.2.1 i.2.2)
theorem kn__law_made (F : At K mg "_law_made" s__law_made ["_law_d"]) (F1 : Kn_Shares P w K mg base S CE) : Kn__law_made P w K mg base S := by
  refine kn_def F sc__law_made (fun _ => rfl) (fun i => [.val (dD i.1 i.2.1 i.2.2)]) (fun _ => rfl) fun f cdv Ar outer s H E i G hc hr po hx => ?_
  obtain ⟨l, r, st⟩ := i
  dsimp only at hc ⊢
  have hu1 := Room.hu1 hr
  refine s_ret (tk_make F1 hr ?_)
  refine ta_cons ?_; refine tk_dget 0 dK_nd ?_ hu1; refine tk_v 0 rfl ?_; refine ⟨_, _, rfl, rfl, ?_⟩; refine ta_cons ?_; refine tk_dget 1 dK_nd ?_ hu1
  refine tk_v 0 rfl ?_; refine ⟨_, _, rfl, rfl, ?_⟩; refine ta_cons ?_; refine tk_dget 2 dK_nd ?_ hu1; refine tk_v 0 rfl ?_; refine ⟨_, _, rfl, rfl, ?_⟩
  refine ta_nil ?_
  refine ⟨(_, _, _), rfl, ⟨typed_int, typed_int, typed_int⟩, fun c fs ⟨nm, h, _⟩ => ?_, fun _ => rfl⟩
  dsimp only at h
  rw [hc.bad] at h
  cases h
end
/-! ## rounds.py -/
def rdFs : List Str := ["source", "size", "states", "words"]
theorem rdFs_nd : rdFs.Nodup := by decide +kernel
structure RdC (K : PySem.W.Frag) (CR : Addr) : Prop where
  cls : Cls K CR
  noa : ∀ f ∈ rdFs, NoAttr K CR f
theorem RdC.at {K : PySem.W.Frag} {CR : Addr} (h : RdC K CR) (i : Nat) {f : Str} (e : rdFs[i]? = some f) : NoAttr K CR f := h.noa f (List.mem_of_getElem? e)
/-- a round that stands where the words lead -/
structure Ply (S CR : Addr) (l r st : Int) (n : Nat) (ws : List Str) (x : Rd) : Prop where
  C : x.C = CR
  f1 : x.f1 = [("source" : Str), "size"]
  d1 : x.d1 = [shD S l r st, .int (n : Int)]
  sf : x.sf = "states"
  ss : x.st = pre (fun ws => staD (stas l r st ws)) ws
  f2 : x.f2 = [("words" : Str)]
  d2 : x.d2 = [.tup (ws.map .str)]
section
variable {S CR : Addr} {l r st : Int} {n : Nat} {ws : List Str} {x : Rd}
theorem Ply.fs (h : Ply S CR l r st n ws x) : x.f1 ++ x.sf :: x.f2 = rdFs := by rw [h.f1, h.sf, h.f2]; rfl
theorem Ply.nd (h : Ply S CR l r st n ws x) : (x.f1 ++ x.sf :: x.f2).Nodup := by rw [h.fs]; exact rdFs_nd
theorem Ply.ds (h : Ply S CR l r st n ws x) : x.d1 ++ .ref x.ls :: x.d2 = [shD S l r st, .int (n : Int), .ref x.ls, .tup (ws.map .str)] := by rw [h.d1, h.d2]; rfl
theorem Ply.last (h : Ply S CR l r st n ws x) : atI x.st (-1) = some (staD (stas l r st ws)) := by
  rw [h.ss]
  obtain ⟨xs, e⟩ := pre_last (f := fun ws => staD (stas l r st ws)) (ws := ws)
  rw [e]
  exact atI_last
end
abbrev RI := (Int × Int × Int) × Nat × List Str
structure Stands (S CR : Addr) (i : RI) (x : Rd) : Prop where
  g : Good i.1.1 i.1.2.1 i.1.2.2
  n1 : 1 ≤ i.2.1
  n2 : i.2.1 ≤ 500
  wl : i.2.2.length ≤ 100
  ok : Okw i.1.1 i.1.2.1 i.1.2.2 i.2.1 i.2.2
  pl : Ply S CR i.1.1 i.1.2.1 i.1.2.2 i.2.1 i.2.2 x
section
variable {P : Program} {w : World} {K : PySem.W.Frag} {mg : Str → Option Value} {base : Heap} {S CR CE CN CB CD : Addr}
theorem sc_on_table : FnScope ["place", "n"] ["place", "n"] (defScope s_on_table) := ⟨rfl, rfl, rfl, by decide +kernel, rfl, by decide +kernel, by decide +kernel⟩
variable (P w K mg base S) in
abbrev Kn_on_table : Prop := KnP P w K mg base S "on_table" 1 (fun i : Int × Nat => 1 ≤ i.2 ∧ i.2 ≤ 500 ∧ -1000 ≤ i.1 ∧ i.1 ≤ 1000) (fun i => [.int i.1, .int (i.2 : Int)]) (fun i => .int (i.1 % (i.2 : Int)))
theorem kn_on_table (F : At K mg "on_table" s_on_table ["place", "n"]) : Kn_on_table P w K mg base S := by
  refine kn_def F sc_on_table (fun _ => rfl) (fun i => [.val (.int i.1), .val (.int (i.2 : Int))]) (fun _ => rfl) fun f cdv Ar outer s H E i G hc hr po hx => ?_
  obtain ⟨p, n⟩ := i
  obtain ⟨h1, h2, h3, h4⟩ := hc
  dsimp only at h1 h2 h3 h4 ⊢
  have q1 : -1000 ≤ p / (n : Int) ∧ p / (n : Int) ≤ 1000 := by
    constructor
    · exact (Int.le_ediv_iff_mul_le (by omega)).mpr (by omega)
    · exact Int.ediv_le_of_le_mul (by omega) (by omega)
  refine s_ret ?_; refine tk_bin d_sub ?_; refine tk_v 0 rfl ?_; refine tk_bin d_mul ?_; refine tk_bin d_fdiv ?_; refine tk_v 0 rfl ?_
  refine tk_v 1 rfl ?_
  refine ⟨(Sz.small (x := (n : Int)) 16 (by omega) (by omega)).divW (x := p) (by omega), ?_⟩
  refine tk_v 1 rfl ?_
  refine ⟨(Sz.small (x := p / (n : Int)) 16 (by omega) (by omega)).mulW (Sz.small (x := (n : Int)) 16 (by omega) (by omega)), ?_⟩
  show D.int _ = D.int _
  rw [Int.emod_def, Int.mul_comm]
theorem sc_Round_init : FnScope ["self", "shares", "n"] ["self", "shares", "n"] (defScope s_Round_init) := ⟨rfl, rfl, rfl, by decide +kernel, rfl, by decide +kernel, by decide +kernel⟩
variable (P w K mg base S CR CN) in
abbrev Kn_RoundR : Prop := KnR P w K mg base S "Round" 4 CR (fun i : (Int × Int × Int) × D => Good i.1.1 i.1.2.1 i.1.2.2 ∧ Typed i.2) (fun i => within i.2 1 500 = true) (fun i => [shD S i.1.1 i.1.2.1 i.1.2.2, i.2]) (fun i x => Ply S CR i.1.1 i.1.2.1 i.1.2.2 (toI i.2).toNat [] x)
  (fun i c fs => within i.2 1 500 = false ∧ c = CN ∧ fs = [(("n" : Str), i.2)])
theorem kn_RoundR (F : AtC K mg "Round" "Round.__init__" CR s_Round_init ["self", "shares", "n"]) (RC : RdC K CR) (F1 : Kn_need_number P w K mg base S CN) (c1 : Co K mg S "ONE" (fr 1)) (c2 : Co K mg S "MOST_SEATS" (.int 500)) : Kn_RoundR P w K mg base S CR CN := by
  obtain ⟨f, fd, hm, M, F0, hb⟩ := F.ex
  refine ⟨f, fd, _, hm, M, hb, ini_okR F0 sc_Round_init (fun _ => rfl) (fun a i => [.ow (some a) (.ins CR [] []), .val (shD S i.1.1 i.1.2.1 i.1.2.2), .val i.2]) (fun _ _ => rfl) fun cdv Ar outer s H H0 E a i G hc hr po hx => ?_⟩
  obtain ⟨⟨l, r, st⟩, dn⟩ := i
  obtain ⟨hg, tn⟩ := hc
  dsimp only at hg tn hx ⊢
  refine s_expr (tk_knX F1 hr (rz_def (M := pur) fun c fs od G1 H1 g _ => hx c fs od G1 H1 g) ?_)
  refine ta_cons ?_; refine tk_v 2 rfl ?_; refine ta_cons ?_; refine tk_i ?_; refine ta_cons ?_; refine tk_co c2 ?_
  refine ta_nil ?_
  refine ⟨(_, _, _), rfl, tn, .inl rfl, fun _ _ z => z, fun _ h => ?_⟩
  have hw := h.1
  dsimp only at hw
  obtain ⟨n, rfl, h1, h2⟩ := within_int hw
  refine s_fst 0 rfl RC.cls (RC.at 0 rfl) (by decide +kernel) (by decide) ?_
  refine tk_v 1 rfl ?_
  refine s_fst 0 rfl RC.cls (RC.at 1 rfl) (by decide +kernel) (by decide) ?_
  refine tk_v 2 rfl ?_
  refine s_rdmk 0 rfl RC.cls (RC.at 2 rfl) (by decide +kernel) (by decide) ?_
  refine ta_cons ?_; refine tk_tup ?_; refine ta_cons ?_; refine tk_i ?_; refine ta_cons ?_; refine tk_i ?_
  refine ta_cons ?_; refine tk_i ?_; refine ta_cons ?_; refine tk_co c1 ?_; refine ta_nil ?_; refine ⟨lenOk (Nat.le_of_ble_eq_true rfl), ?_⟩
  refine ta_nil ?_
  refine ⟨lenOk (Nat.le_of_ble_eq_true rfl), fun x hp hC hf1 hd1 hsf hst hf2 hd2 => ?_⟩
  refine s_rdadd 0 rfl (by rw [hC]; exact RC.cls) (by rw [hC]; exact RC.at 3 rfl) (by rw [hf1, hsf, hf2]; decide +kernel) (by rw [hf1, hf2]; decide) ?_
  refine tk_tup ?_; refine ta_nil ?_; refine ⟨lenOk (Nat.le_of_ble_eq_true rfl), ?_⟩
  intro o
  refine s_nil fun kp σ H' G' s' g' => ⟨_, G', _, s', hw, rfl, hp a rfl, ⟨hC, hf1, ?_, hsf, hst, ?_, ?_⟩⟩
  · show x.d1 = [_, D.int ((n.toNat : Nat) : Int)]
    rw [hd1, show ((n.toNat : Nat) : Int) = n by omega]
    rfl
  · show x.f2 ++ _ = _
    rw [hf2]
    rfl
  · show x.d2 ++ _ = _
    rw [hd2]
    rfl
/-! properties -/
theorem sc_Round_shares : FnScope ["self"] ["self"] (defScope s_Round_shares) := ⟨rfl, rfl, rfl, by decide +kernel, rfl, by decide +kernel, by decide +kernel⟩
theorem sc_Round_number : FnScope ["self"] ["self"] (defScope s_Round_number) := ⟨rfl, rfl, rfl, by decide +kernel, rfl, by decide +kernel, by decide +kernel⟩
theorem sc_Round_log : FnScope ["self"] ["self"] (defScope s_Round_log) := ⟨rfl, rfl, rfl, by decide +kernel, rfl, by decide +kernel, by decide +kernel⟩
theorem sc_Round_holder : FnScope ["self"] ["self"] (defScope s_Round_holder) := ⟨rfl, rfl, rfl, by decide +kernel, rfl, by decide +kernel, by decide +kernel⟩
theorem sc_Round_chance : FnScope ["self"] ["self"] (defScope s_Round_chance) := ⟨rfl, rfl, rfl, by decide +kernel, rfl, by decide +kernel, by decide +kernel⟩
theorem sc_Round_had : FnScope ["self", "place", "low", "high", "chance", "one"] ["self"] (defScope s_Round_had) := ⟨rfl, rfl, rfl, by decide +kernel, rfl, by decide +kernel, by decide +kernel⟩
theorem sc_Round_last : FnScope ["self", "place", "low", "high", "chance"] ["self"] (defScope s_Round_last) := ⟨rfl, rfl, rfl, by decide +kernel, rfl, by decide +kernel, by decide +kernel⟩
variable (P w K mg base S CR) in
/-- a property of a round, told by its words -/
abbrev Kh_rd (m : Str) (k : Nat) (v : RI → D) : Prop := KnH P w K mg base S m k CR (fun _ : RI => pur) (Stands S CR) (fun _ x => [.ref x.p]) (fun i x d x' => x' = x ∧ d = v i)
theorem kh_shares (F : AtG K CR "shares" "Round.shares" s_Round_shares ["self"]) (RC : RdC K CR) : Kh_rd P w K mg base S CR "shares" 1 (fun i => shD S i.1.1 i.1.2.1 i.1.2.2) := by
  refine knH_def F sc_Round_shares 0 (fun _ _ => rfl) (fun _ _ => rfl) (fun i x => [.rd x]) (fun _ _ => rfl) fun f cdv Ar outer s H E i x G hc hr => ?_
  have h := hc.pl
  refine s_retR 0 rfl rfl (tk_rdf 0 0 rfl (by rw [h.C]; exact RC.cls) (by rw [h.C]; exact RC.at 0 rfl) h.nd (by rw [h.fs]; rfl) (by rw [h.ds]; rfl) ⟨rfl, rfl⟩)
theorem kh_number (F : AtG K CR "number" "Round.number" s_Round_number ["self"]) (RC : RdC K CR) : Kh_rd P w K mg base S CR "number" 1 (fun i => .int (i.2.1 : Int)) := by
  refine knH_def F sc_Round_number 0 (fun _ _ => rfl) (fun _ _ => rfl) (fun i x => [.rd x]) (fun _ _ => rfl) fun f cdv Ar outer s H E i x G hc hr => ?_
  have h := hc.pl
  refine s_retR 0 rfl rfl (tk_rdf 0 1 rfl (by rw [h.C]; exact RC.cls) (by rw [h.C]; exact RC.at 1 rfl) h.nd (by rw [h.fs]; rfl) (by rw [h.ds]; rfl) ⟨rfl, rfl⟩)
theorem kh_log (F : AtG K CR "log" "Round.log" s_Round_log ["self"]) (RC : RdC K CR) : Kh_rd P w K mg base S CR "log" 1 (fun i => .tup (i.2.2.map .str)) := by
  refine knH_def F sc_Round_log 0 (fun _ _ => rfl) (fun _ _ => rfl) (fun i x => [.rd x]) (fun _ _ => rfl) fun f cdv Ar outer s H E i x G hc hr => ?_
  have h := hc.pl
  refine s_retR 0 rfl rfl (tk_rdf 0 3 rfl (by rw [h.C]; exact RC.cls) (by rw [h.C]; exact RC.at 3 rfl) h.nd (by rw [h.fs]; rfl) (by rw [h.ds]; rfl) ⟨rfl, rfl⟩)
theorem kh_chance (F : AtG K CR "chance" "Round.chance" s_Round_chance ["self"]) (RC : RdC K CR) : Kh_rd P w K mg base S CR "chance" 1 (fun i => fr (stas i.1.1 i.1.2.1 i.1.2.2 i.2.2).2) := by
  refine knH_def F sc_Round_chance 0 (fun _ _ => rfl) (fun _ _ => rfl) (fun i x => [.rd x]) (fun _ _ => rfl) fun f cdv Ar outer s H E i x G hc hr => ?_
  have h := hc.pl
  refine s_retR 0 rfl rfl ?_
  refine tk_ix ?_; refine tk_rdix 0 rfl (by rw [h.C]; exact RC.cls) (by rw [h.C]; exact RC.at 2 rfl) h.nd h.sf ?_; refine tk_neg ?_; refine tk_i ?_; refine ⟨_, h.last, ?_⟩; refine tk_i ?_
  refine ⟨_, rfl, ?_⟩
  exact ⟨rfl, rfl⟩
theorem kh_holder (F : AtG K CR "holder" "Round.holder" s_Round_holder ["self"]) (RC : RdC K CR) (F1 : Kn_on_table P w K mg base S) : Kh_rd P w K mg base S CR "holder" 2 (fun i => .int (phi i.2.1 (stas i.1.1 i.1.2.1 i.1.2.2 i.2.2).1).1) := by
  refine knH_def F sc_Round_holder 0 (fun _ _ => rfl) (fun _ _ => rfl) (fun i x => [.rd x]) (fun _ _ => rfl) fun f cdv Ar outer s H E i x G hc hr => ?_
  have h := hc.pl
  obtain ⟨q1, q2, q3, q4, q5⟩ := hc.ok.ok hc.n1
  have n2 := hc.n2
  refine s_retR 0 rfl rfl ?_
  refine tk_knP F1 hr ?_; refine ta_cons ?_; refine tk_ix ?_; refine tk_rdix 0 rfl (by rw [h.C]; exact RC.cls) (by rw [h.C]; exact RC.at 2 rfl) h.nd h.sf ?_; refine tk_neg ?_; refine tk_i ?_
  refine ⟨_, h.last, ?_⟩; refine tk_i ?_; refine ⟨_, rfl, ?_⟩; refine ta_cons ?_
  refine tk_rdf 0 1 rfl (by rw [h.C]; exact RC.cls) (by rw [h.C]; exact RC.at 1 rfl) h.nd (by rw [h.fs]; rfl) (by rw [h.ds]; rfl) ?_
  refine ta_nil ?_
  have b1 : -1000 ≤ (stas i.1.1 i.1.2.1 i.1.2.2 i.2.2).1.2.2 ∧ (stas i.1.1 i.1.2.1 i.1.2.2 i.2.2).1.2.2 ≤ 1000 := by omega
  exact ⟨((stas i.1.1 i.1.2.1 i.1.2.2 i.2.2).1.2.2, i.2.1), rfl, ⟨hc.n1, hc.n2, b1.1, b1.2⟩, rfl, rfl⟩
theorem kh_had (F : AtG K CR "had" "Round.had" s_Round_had ["self"]) (RC : RdC K CR) (F1 : Kn_on_table P w K mg base S) (m1 : mg "range" = none) (m2 : mg "sorted" = none) (m3 : mg "tuple" = none) : Kh_rd P w K mg base S CR "had" 2 (fun i => .tup ((phi i.2.1 (stas i.1.1 i.1.2.1 i.1.2.2 i.2.2).1).2.map .int)) := by
  refine knH_def F sc_Round_had 0 (fun _ _ => rfl) (fun _ _ => rfl) (fun i x => [.rd x, .no, .no, .no, .no, .no]) (fun _ _ => rfl) fun f cdv Ar outer s H E i x G hc hr => ?_
  have h := hc.pl
  have hok := hc.ok.ok hc.n1
  obtain ⟨q1, q2, q3, q4, q5⟩ := id hok
  have n2 := hc.n2
  have n1 := hc.n1
  have hl := h.last
  have h1 := h.ds
  obtain ⟨⟨l, r, st⟩, n, ws⟩ := i
  dsimp only at hok hl h1 n1 n2 q1 q2 q3 q4 q5 ⊢
  generalize stas l r st ws = sx at *
  obtain ⟨⟨lo, hi, pl⟩, ch⟩ := sx
  dsimp only at hok hl q1 q2 q3 q4 q5 ⊢
  refine s_unp [1,2,3,4] ?_ ?hg ?hc; case hc => rfl
  case hg => exact pgs_cons (pg_name (i := 1) sc_Round_had.nd rfl (.inl rfl)) (pgs_cons (pg_name (i := 2) sc_Round_had.nd rfl (.inl rfl)) (pgs_cons (pg_name (i := 3) sc_Round_had.nd rfl (.inl rfl)) (pgs_cons (pg_name (i := 4) sc_Round_had.nd rfl (.inl rfl)) (pgs_nil))))
  refine tk_rdix 0 rfl (by rw [h.C]; exact RC.cls) (by rw [h.C]; exact RC.at 2 rfl) h.nd h.sf ?_; refine tk_neg ?_; refine tk_i ?_; refine ⟨_, hl, rfl, ?_⟩
  show Tss _ [.rd x, .val (.int pl), .val (.int lo), .val (.int hi), .val (fr ch), .no] _ _
  refine s_retR 0 rfl rfl ?_
  refine tk_tupleL m3 ?_; refine tk_sortI m2 ?_; refine tk_lcI [("one", 5)] (gName 5) (lcn_r2 "one" 5 ?_ m1) rfl sc_Round_had.nd ?hok ?hpg; case hok => exact sc_Round_had.blk (by decide +kernel)
  case hpg => exact fun _ _ _ _ _ => pg_name (i := 5) sc_Round_had.nd rfl (.inl rfl)
  refine ta_cons ?_; refine tk_v 2 rfl ?_; refine ta_cons ?_
  refine tk_bin d_add ?_; refine tk_v 3 rfl ?_; refine tk_i ?_; refine ta_nil ?_
  refine ⟨⟨by omega, by omega, by omega, by omega⟩, ?_⟩
  refine ⟨Nat.lt_of_lt_of_le (show (hi + 1 - lo).toNat < 1000 by omega) (lenOk (Nat.le_refl _)), fun j => .int ((lo + (j : Int)) % (n : Int)), fun j hj sB HB CB clB fpB => ?_, ?_⟩
  · refine tk_knP F1 hr ?_; refine ta_cons ?_; refine tk_v 5 rfl ?_; refine ta_cons ?_
    refine tk_rdf 0 1 rfl (by rw [h.C]; exact RC.cls) (by rw [h.C]; exact RC.at 1 rfl) h.nd (by rw [h.fs]; rfl) (by rw [h1]; rfl) ?_
    refine ta_nil ?_
    exact ⟨(lo + (j : Int), n), rfl, ⟨n1, n2, by dsimp only; omega, by dsimp only; omega⟩, rfl⟩
  · refine ⟨(List.range (hi + 1 - lo).toNat).map fun (j : Nat) => (lo + (j : Int)) % (n : Int), by rw [List.map_map]; rfl, fun out hp ho => ⟨rfl, ?_⟩⟩
    rw [had_eq n1 hok (out := out) (by rw [show (hi - lo + 1) = hi + 1 - lo by omega]; exact hp) ho]
theorem kh_last (F : AtG K CR "last" "Round.last" s_Round_last ["self"]) (RC : RdC K CR) (F1 : Kn_on_table P w K mg base S) : Kh_rd P w K mg base S CR "last" 2 (fun i => if pEnd i.2.1 (stas i.1.1 i.1.2.1 i.1.2.2 i.2.2).1 = true then .int (phi i.2.1 (stas i.1.1 i.1.2.1 i.1.2.2 i.2.2).1).1 else .non) := by
  refine knH_def F sc_Round_last 0 (fun _ _ => rfl) (fun _ _ => rfl) (fun i x => [.rd x, .no, .no, .no, .no]) (fun _ _ => rfl) fun f cdv Ar outer s H E i x G hc hr => ?_
  have hu := Room.hu hr
  have h := hc.pl
  have hok := hc.ok.ok hc.n1
  obtain ⟨q1, q2, q3, q4, q5⟩ := id hok
  have n2 := hc.n2
  have n1 := hc.n1
  have hl := h.last
  have h1 := h.ds
  obtain ⟨⟨l, r, st⟩, n, ws⟩ := i
  dsimp only at hok hl h1 n1 n2 q1 q2 q3 q4 q5 ⊢
  generalize stas l r st ws = sx at *
  obtain ⟨⟨lo, hi, pl⟩, ch⟩ := sx
  dsimp only at hok hl q1 q2 q3 q4 q5 ⊢
  refine s_unp [1,2,3,4] ?_ ?hg ?hc; case hc => rfl
  case hg => exact pgs_cons (pg_name (i := 1) sc_Round_last.nd rfl (.inl rfl)) (pgs_cons (pg_name (i := 2) sc_Round_last.nd rfl (.inl rfl)) (pgs_cons (pg_name (i := 3) sc_Round_last.nd rfl (.inl rfl)) (pgs_cons (pg_name (i := 4) sc_Round_last.nd rfl (.inl rfl)) (pgs_nil))))
  refine tk_rdix 0 rfl (by rw [h.C]; exact RC.cls) (by rw [h.C]; exact RC.at 2 rfl) h.nd h.sf ?_; refine tk_neg ?_; refine tk_i ?_; refine ⟨_, hl, rfl, ?_⟩
  show Tss _ [.rd x, .val (.int pl), .val (.int lo), .val (.int hi), .val (fr ch)] _ _
  refine s_retR 0 rfl rfl ?_
  refine tk_if ?_; refine tt_cmp (d_eq hu) ?_; refine tk_bin d_sub ?_; refine tk_v 3 rfl ?_; refine tk_v 2 rfl ?_; refine tk_bin d_sub ?_
  refine tk_rdf 0 1 rfl (by rw [h.C]; exact RC.cls) (by rw [h.C]; exact RC.at 1 rfl) h.nd (by rw [h.fs]; rfl) (by rw [h1]; rfl) ?_
  refine tk_i ?_; refine ⟨rfl, rfl, ?_⟩
  rw [deq_int]
  refine cB_dec (fun h3 => ?_) (fun h3 => ?_)
  · refine tk_knP F1 hr ?_; refine ta_cons ?_; refine tk_v 1 rfl ?_; refine ta_cons ?_
    refine tk_rdf 0 1 rfl (by rw [h.C]; exact RC.cls) (by rw [h.C]; exact RC.at 1 rfl) h.nd (by rw [h.fs]; rfl) (by rw [h1]; rfl) ?_
    refine ta_nil ?_
    refine ⟨(pl, n), rfl, ⟨n1, n2, by dsimp only; omega, by dsimp only; omega⟩, rfl, ?_⟩
    rw [show pEnd n (lo, hi, pl) = true from decide_eq_true h3, if_pos rfl]
    rfl
  · refine tk_n ?_
    refine ⟨rfl, ?_⟩
    rw [show pEnd n (lo, hi, pl) = false from decide_eq_false h3, if_neg Bool.false_ne_true]
end
/-! throw, undo, copy, len -/
section
variable {P : Program} {w : World} {K : PySem.W.Frag} {mg : Str → Option Value} {base : Heap} {S CR CE CN CB CD : Addr}
def isStrB : D → Bool
  | .str _ => true
  | _ => false
theorem kit_strR {d : D} {t : String} (h : dTy d = some t) : kitB t "str" = some (isStrB d) := by
  cases d <;> cases h <;> first | exact (by decide +kernel : kitB "NoneType" "str" = some false) | exact (by decide +kernel : kitB "bool" "str" = some false) | exact (by decide +kernel : kitB "int" "str" = some false) | exact (by decide +kernel : kitB "str" "str" = some true) | exact (by decide +kernel : kitB "tuple" "str" = some false) | exact (by decide +kernel : kitB "list" "str" = some false) | exact (by decide +kernel : kitB "dict" "str" = some false)
/-- a word that is a throw -/
def goodW (l r st : Int) : D → Option Str
  | .str s => if s ∈ W3 ∧ 0 < shW l r st s then some s else none
  | _ => none
theorem goodW_str {l r st : Int} {s : Str} : goodW l r st (.str s) = if s ∈ W3 ∧ 0 < shW l r st s then some s else none := rfl
theorem stepK_nd : ([.inr "left", .inr "right", .inr "stay"] : List Key).Nodup := by decide +kernel
theorem step_at {l r st : Int} {s : Str} (h : s ∈ W3) : ∃ i : Nat, ([.inr "left", .inr "right", .inr "stay"] : List Key)[i]? = some (.inr s) ∧ [D.tup [.int (-1), .int l], D.tup [.int 1, .int r], D.tup [.int 0, .int st]][i]? = some (.tup [.int (stepW s), .int (shW l r st s)]) := by
  simp only [W3, List.mem_cons, List.not_mem_nil, or_false] at h
  rcases h with rfl | rfl | rfl
  · exact ⟨0, rfl, rfl⟩
  · exact ⟨1, rfl, rfl⟩
  · exact ⟨2, rfl, rfl⟩
theorem step_out {s : Str} (h : s ∉ W3) : (.inr s : Key) ∉ ([.inr "left", .inr "right", .inr "stay"] : List Key) := fun z => h (by
  simp only [List.mem_cons, List.not_mem_nil, or_false] at z
  rcases z with z | z | z <;> cases z
  · exact .head _
  · exact .tail _ (.head _)
  · exact .tail _ (.tail _ (.head _)))
theorem sc_Round_throw : FnScope ["self", "word", "place", "low", "high", "chance", "steps", "step", "share", "there", "part"] ["self", "word"] (defScope s_Round_throw) := ⟨rfl, rfl, rfl, by decide +kernel, rfl, by decide +kernel, by decide +kernel⟩
variable (P w K mg base S CR CB CD) in
abbrev Kn_throwR : Prop := KnN P w K mg base S "throw" 4 CR (fun _ : RI × D => pur) (fun i x => Stands S CR i.1 x ∧ Typed i.2) (fun i x => [.ref x.p, i.2])
  (fun i x d x' => pEnd i.1.2.1 (stas i.1.1.1 i.1.1.2.1 i.1.1.2.2 i.1.2.2).1 = false ∧ ∃ wd, goodW i.1.1.1 i.1.1.2.1 i.1.1.2.2 i.2 = some wd ∧ d = .non ∧ x'.p = x.p ∧ x'.ls = x.ls ∧ Ply S CR i.1.1.1 i.1.1.2.1 i.1.1.2.2 i.1.2.1 (i.1.2.2 ++ [wd]) x' ∧ Okw i.1.1.1 i.1.1.2.1 i.1.1.2.2 i.1.2.1 (i.1.2.2 ++ [wd]))
  (fun i _ c fs => fs = [] ∧ ((pEnd i.1.2.1 (stas i.1.1.1 i.1.1.2.1 i.1.1.2.2 i.1.2.2).1 = true ∧ c = CD) ∨ (pEnd i.1.2.1 (stas i.1.1.1 i.1.1.2.1 i.1.1.2.2 i.1.2.2).1 = false ∧ goodW i.1.1.1 i.1.1.2.1 i.1.1.2.2 i.2 = none ∧ c = CB)))
set_option maxHeartbeats 2000000 in
theorem kn_throwR (F : AtM K CR "throw" "Round.throw" s_Round_throw ["self", "word"]) (RC : RdC K CR) (FC : ShC K S) (FB : KnE P w K mg base "BadThrow" 1 CB []) (FD : KnE P w K mg base "Ended" 1 CD []) (F1 : Kn_fraction P w K mg base S) (F2 : Kn_q2 P w K mg base S "product" (fun _ _ => True) (fun a b => a * b))
    (m1 : mg "isinstance" = none) (m2 : mg "str" = none) (m3 : mg "min" = none) (m4 : mg "max" = none) : Kn_throwR P w K mg base S CR CB CD := by
  refine knN_def F sc_Round_throw 0 (fun _ _ => rfl) (fun _ _ => rfl) (fun i x => [.rd x, .val i.2, .no, .no, .no, .no, .no, .no, .no, .no, .no]) (fun _ _ => rfl) fun f cdv Ar outer s H E i x G hc hr po hx => ?_
  obtain ⟨⟨⟨l, r, st⟩, n, ws⟩, dw⟩ := i
  obtain ⟨hs, ⟨t, ht⟩⟩ := hc
  dsimp only at hs ht hx ⊢
  have hu := Room.hu hr
  have hu1 := Room.hu1 hr
  obtain ⟨g, n1, n2, wl, ok, h⟩ := hs
  dsimp only at g n1 n2 wl ok h
  have hok := ok.ok n1
  obtain ⟨q1, q2, q3, q4, q5⟩ := id hok
  have hl := h.last
  have h1 := h.ds
  obtain ⟨l1, l9, r1, r9, s0, s9⟩ := id g
  have hsz := ok.sz ⟨l1, l9⟩ ⟨r1, r9⟩ ⟨s0, s9⟩
  have happ := fun wd => stas_app (l := l) (r := r) (st := st) (ws := ws) (w := wd)
  have okapp := fun wd => Okw.app (w := wd) ok
  obtain ⟨sx, esx⟩ : ∃ sx, sx = stas l r st ws := ⟨_, rfl⟩
  rw [← esx] at hok q1 q2 q3 q4 q5 hl hsz happ okapp hx ⊢
  obtain ⟨⟨lo, hi, pl⟩, ch⟩ := sx
  dsimp only at hok hl q1 q2 q3 q4 q5 hsz hx ⊢
  refine s_unp [2,3,4,5] ?_ ?hg ?hc; case hc => rfl
  case hg => exact pgs_cons (pg_name (i := 2) sc_Round_throw.nd rfl (.inl rfl)) (pgs_cons (pg_name (i := 3) sc_Round_throw.nd rfl (.inl rfl)) (pgs_cons (pg_name (i := 4) sc_Round_throw.nd rfl (.inl rfl)) (pgs_cons (pg_name (i := 5) sc_Round_throw.nd rfl (.inl rfl)) (pgs_nil))))
  refine tk_rdix 0 rfl (by rw [h.C]; exact RC.cls) (by rw [h.C]; exact RC.at 2 rfl) h.nd h.sf ?_; refine tk_neg ?_; refine tk_i ?_; refine ⟨_, hl, rfl, ?_⟩
  show Tss _ [.rd x, .val dw, .val (.int pl), .val (.int lo), .val (.int hi), .val (fr ch), .no, .no, .no, .no, .no] _ _
  refine s_if ?_; refine tt_cmp (d_eq hu) ?_; refine tk_bin d_sub ?_; refine tk_v 4 rfl ?_; refine tk_v 3 rfl ?_; refine tk_bin d_sub ?_
  refine tk_rdf 0 1 rfl (by rw [h.C]; exact RC.cls) (by rw [h.C]; exact RC.at 1 rfl) h.nd (by rw [h.fs]; rfl) (by rw [h1]; rfl) ?_
  refine tk_i ?_; refine ⟨rfl, rfl, ?_⟩
  rw [deq_int]
  refine cB_dec (fun h3 => ?_) (fun h3 => s_end ?_)
  · exact s_raise0 FD hr (rz_defR 0 rfl hx) rfl ⟨rfl, .inl ⟨decide_eq_true h3, rfl⟩⟩
  have hp : pEnd n (lo, hi, pl) = false := decide_eq_false h3
  refine s_set 6 ?_ sc_Round_throw.nd
  refine @TkS.h _ _ _ _ ?_
  refine ⟨?_⟩
  refine @tk_disp3 _ _ _ _ _ _ _ _ _ _ _ _ _ _ _ _ stepK_nd ?_
  refine tk_tup ?_; refine ta_cons ?_; refine tk_neg ?_; refine tk_i ?_; refine ta_cons ?_; refine tk_fld 0 FC.cls (FC.at 0 rfl) shFs_nd ?_
  refine tk_rdf 0 0 rfl (by rw [h.C]; exact RC.cls) (by rw [h.C]; exact RC.at 0 rfl) h.nd (by rw [h.fs]; rfl) (by rw [h1]; rfl) ?_
  refine ⟨_, _, rfl, rfl, ?_⟩; refine ta_nil ?_; refine ⟨lenOk (Nat.le_of_ble_eq_true rfl), ?_⟩; refine tk_tup ?_; refine ta_cons ?_; refine tk_i ?_
  refine ta_cons ?_; refine tk_fld 1 FC.cls (FC.at 1 rfl) shFs_nd ?_
  refine tk_rdf 0 0 rfl (by rw [h.C]; exact RC.cls) (by rw [h.C]; exact RC.at 0 rfl) h.nd (by rw [h.fs]; rfl) (by rw [h1]; rfl) ?_
  refine ⟨_, _, rfl, rfl, ?_⟩; refine ta_nil ?_; refine ⟨lenOk (Nat.le_of_ble_eq_true rfl), ?_⟩; refine tk_tup ?_; refine ta_cons ?_; refine tk_i ?_
  refine ta_cons ?_; refine tk_fld 2 FC.cls (FC.at 2 rfl) shFs_nd ?_
  refine tk_rdf 0 0 rfl (by rw [h.C]; exact RC.cls) (by rw [h.C]; exact RC.at 0 rfl) h.nd (by rw [h.fs]; rfl) (by rw [h1]; rfl) ?_
  refine ⟨_, _, rfl, rfl, ?_⟩; refine ta_nil ?_; refine ⟨lenOk (Nat.le_of_ble_eq_true rfl), ?_⟩
  show Tss _ [.rd x, .val dw, .val (.int pl), .val (.int lo), .val (.int hi), .val (fr ch), .val (.dct [.inr "left", .inr "right", .inr "stay"] [D.tup [.int (-1), .int l], D.tup [.int 1, .int r], D.tup [.int 0, .int st]]), .no, .no, .no, .no] _ _
  refine s_if ?_; refine Tw.tt (tw_or ?_); refine tt_not ?_; refine tt_val ?_; refine tk_isi (T := "str") m1 m2 (by decide +kernel) ?_; refine tk_v 1 rfl ?_
  refine ⟨t, _, ht, kit_strR ht, ?_⟩
  cases hb : isStrB dw with
  | false =>
    have hg : goodW l r st dw = none := by
      cases dw with
      | str s => cases hb
      | _ => rfl
    exact s_raise0 FB hr (rz_defR 0 rfl hx) rfl ⟨rfl, .inr ⟨hp, hg, rfl⟩⟩
  | true =>
    obtain ⟨wd, rfl⟩ : ∃ wd, dw = .str wd := by
      cases dw with
      | str s => exact ⟨s, rfl⟩
      | _ => cases hb
    by_cases hw : wd ∈ W3
    · obtain ⟨j, j1, j2⟩ := step_at (l := l) (r := r) (st := st) hw
      have hab := shW_of ⟨l1, l9⟩ ⟨r1, r9⟩ ⟨s0, s9⟩ wd
      have hsh := share_sz ⟨l1, l9⟩ ⟨r1, r9⟩ ⟨s0, s9⟩ wd
      refine tw_or ?_; refine tt_cmp (d_notInDk hu1) ?_; refine tk_v 1 rfl ?_; refine tk_v 6 rfl ?_
      refine ⟨wd, _, _, j, _, rfl, rfl, stepK_nd, j1, j2, ?_⟩
      refine tw_or1 ?_; refine tt_cmp (d_eq hu) ?_; refine tk_ix ?_; refine tk_dgetV j stepK_nd ?_ hu1; refine tk_v 6 rfl ?_; refine ⟨_, .tup [.int (stepW wd), .int (shW l r st wd)], rfl, ?_⟩
      refine tk_v 1 rfl ?_; refine ⟨j1, j2, ?_⟩; refine tk_i ?_; refine ⟨_, rfl, ?_⟩; refine tk_i ?_; refine ⟨rfl, rfl, ?_⟩
      rw [deq_int]
      refine cB_dec (fun h4 => ?_) (fun h4 => s_end ?_)
      · have hg : goodW l r st (.str wd) = none := by
          rw [goodW_str, if_neg (fun z => by have := z.2; omega)]
        exact s_raise0 FB hr (rz_defR 0 rfl hx) rfl ⟨rfl, .inr ⟨hp, hg, rfl⟩⟩
      have hpos : 0 < shW l r st wd := by omega
      have hg : goodW l r st (.str wd) = some wd := by
        rw [goodW_str, if_pos ⟨hw, hpos⟩]
      refine s_unp [7,8] ?_ ?hg ?hc; case hc => rfl
      case hg => exact pgs_cons (pg_name (i := 7) sc_Round_throw.nd rfl (.inl rfl)) (pgs_cons (pg_name (i := 8) sc_Round_throw.nd rfl (.inl rfl)) (pgs_nil))
      refine tk_dgetV j stepK_nd ?_ hu1; refine tk_v 6 rfl ?_; refine ⟨_, .tup [.int (stepW wd), .int (shW l r st wd)], rfl, ?_⟩; refine tk_v 1 rfl ?_; refine ⟨j1, j2, rfl, ?_⟩
      show Tss _ [.rd x, .val (.str wd), .val (.int pl), .val (.int lo), .val (.int hi), .val (fr ch), .val (.dct [.inr "left", .inr "right", .inr "stay"] [D.tup [.int (-1), .int l], D.tup [.int 1, .int r], D.tup [.int 0, .int st]]), .val (.int (stepW wd)), .val (.int (shW l r st wd)), .no, .no] _ _
      refine s_set 9 ?_ sc_Round_throw.nd; refine tk_bin d_add ?_; refine tk_v 2 rfl ?_; refine tk_v 7 rfl ?_; refine s_set 10 ?_ sc_Round_throw.nd; refine tk_knP F2 hr ?_
      refine ta_cons ?_; refine tk_v 5 rfl ?_; refine ta_cons ?_; refine tk_knP F1 hr ?_; refine ta_cons ?_; refine tk_v 8 rfl ?_
      refine ta_cons ?_; refine tk_fld 3 FC.cls (FC.at 3 rfl) shFs_nd ?_
      refine tk_rdf 0 0 rfl (by rw [h.C]; exact RC.cls) (by rw [h.C]; exact RC.at 0 rfl) h.nd (by rw [h.fs]; rfl) (by rw [h1]; rfl) ?_
      refine ⟨_, _, rfl, rfl, ?_⟩; refine ta_nil ?_
      refine ⟨(shW l r st wd, l + r + st), rfl, ⟨by show l + r + st ≠ 0; omega, (Sz.small (x := shW l r st wd) 8 (by omega) (by omega)).mono (by decide), (Sz.small (x := l + r + st) 8 (by omega) (by omega)).mono (by decide)⟩, ?_⟩
      refine ta_nil ?_
      refine ⟨(ch, Rat.divInt (shW l r st wd) (l + r + st)), rfl, ⟨hsz.mono (by omega), hsh.mono (by decide), trivial⟩, ?_⟩
      show Tss _ [.rd x, .val (.str wd), .val (.int pl), .val (.int lo), .val (.int hi), .val (fr ch), _, _, _, .val (.int (pl + stepW wd)), .val (fr (ch * Rat.divInt (shW l r st wd) (l + r + st)))] _ _
      refine s_rdapp 0 rfl (by rw [h.C]; exact RC.cls) (by rw [h.C]; exact RC.at 2 rfl) h.nd h.sf ?_
      refine tk_tup ?_; refine ta_cons ?_; refine tk_v 9 rfl ?_; refine ta_cons ?_; refine tk_minL rfl m3 ?_; refine tk_lst ?_
      refine ta_cons ?_; refine tk_v 3 rfl ?_; refine ta_cons ?_; refine tk_v 9 rfl ?_; refine ta_nil ?_; refine ⟨lenOk (Nat.le_of_ble_eq_true rfl), ?_⟩
      refine ⟨[lo, pl + stepW wd], by show 0 < 2; decide, .inl rfl, fun m hm hmin => ?_⟩
      have em : m = min lo (pl + stepW wd) := by
        have x1 := hmin lo (.head _)
        have x2 := hmin _ (.tail _ (.head _))
        rw [List.mem_cons, List.mem_singleton] at hm
        rcases hm with e | e <;> omega
      subst em
      refine ta_cons ?_; refine tk_maxL rfl m4 ?_; refine tk_lst ?_; refine ta_cons ?_; refine tk_v 4 rfl ?_; refine ta_cons ?_
      refine tk_v 9 rfl ?_; refine ta_nil ?_; refine ⟨lenOk (Nat.le_of_ble_eq_true rfl), ?_⟩
      refine ⟨[hi, pl + stepW wd], by show 0 < 2; decide, .inl rfl, fun m hm hmax => ?_⟩
      have em : m = max hi (pl + stepW wd) := by
        have x1 := hmax hi (.head _)
        have x2 := hmax _ (.tail _ (.head _))
        rw [List.mem_cons, List.mem_singleton] at hm
        rcases hm with e | e <;> omega
      subst em
      refine ta_cons ?_; refine tk_v 10 rfl ?_; refine ta_nil ?_; refine ⟨lenOk (Nat.le_of_ble_eq_true rfl), ?_⟩
      refine ⟨?_, fun v => ?_⟩
      · rw [h.ss, pre_len]
        exact Nat.lt_of_lt_of_le (show ws.length + 1 < 1000 by omega) (lenOk (Nat.le_refl _))
      refine s_rdfld 0 rfl (by show Cls _ x.C; rw [h.C]; exact RC.cls) (by show NoAttr _ x.C _; rw [h.C]; exact RC.at 3 rfl) h.nd h.f2 (by show x.f1.length < 900; rw [h.f1]; decide) ?_
      refine tk_bin d_addT ?_
      refine tk_rdf 0 3 rfl (by show Cls _ x.C; rw [h.C]; exact RC.cls) (by show NoAttr _ x.C _; rw [h.C]; exact RC.at 3 rfl) h.nd (by show (x.f1 ++ x.sf :: x.f2)[3]? = _; rw [h.fs]; rfl) (by show (x.d1 ++ .ref x.ls :: x.d2)[3]? = _; rw [h1]; rfl) ?_
      refine tk_tup ?_; refine ta_cons ?_; refine tk_v 1 rfl ?_; refine ta_nil ?_; refine ⟨lenOk (Nat.le_of_ble_eq_true rfl), ?_⟩
      refine ⟨?_, fun o => ?_⟩
      · rw [List.length_map]
        exact Nat.le_trans (show ws.length + 1 ≤ 1000 by omega) (lenOk (Nat.le_refl _))
      have hlive : pLive n (lo, hi, pl) = true := decide_eq_true (by show hi - lo < (n : Int) - 1; omega)
      refine s_fallR 0 rfl ⟨hp, wd, hg, rfl, rfl, rfl, ⟨h.C, h.f1, h.d1, h.sf, ?_, h.f2, ?_⟩, okapp wd hw hpos hlive⟩
      · show x.st ++ [_] = _
        rw [pre_app, h.ss, happ wd]
        rfl
      · show [D.tup (ws.map .str ++ [.str wd])] = [D.tup ((ws ++ [wd]).map .str)]
        rw [List.map_append]
        rfl
    · have hg : goodW l r st (.str wd) = none := by
        rw [goodW_str, if_neg (fun z => hw z.1)]
      refine tw_or ?_; refine tt_cmp (d_notInDn hu1) ?_; refine tk_v 1 rfl ?_; refine tk_v 6 rfl ?_
      refine ⟨wd, _, _, rfl, rfl, step_out hw, ?_⟩
      exact s_raise0 FB hr (rz_defR 0 rfl hx) rfl ⟨rfl, .inr ⟨hp, hg, rfl⟩⟩
end
/-! undo, copy, len -/
section
variable {P : Program} {w : World} {K : PySem.W.Frag} {mg : Str → Option Value} {base : Heap} {S CR CE CN CB CD : Addr}
theorem cutD_last {xs : List D} (h : xs ≠ []) : ¬ (HT.sIx xs.length 0 none = 0 ∧ HT.sIx xs.length xs.length (some (-1)) = xs.length) ∧ Fz.cutD xs none (some (-1)) = xs.dropLast := by
  have hl := List.length_pos_iff.mpr h
  have e : HT.sIx xs.length xs.length (some (-1)) = xs.length - 1 := by
    show (if (-1 : Int) < 0 then ((-1 : Int) + (xs.length : Int)).toNat else min (-1 : Int).toNat xs.length) = _
    rw [if_pos (by decide)]
    omega
  refine ⟨fun z => by have := z.2; rw [e] at this; omega, ?_⟩
  unfold Fz.cutD
  rw [e, List.dropLast_eq_take]
  rfl
theorem sc_Round_undo : FnScope ["self"] ["self"] (defScope s_Round_undo) := ⟨rfl, rfl, rfl, by decide +kernel, rfl, by decide +kernel, by decide +kernel⟩
variable (P w K mg base S CR) in
abbrev Kn_undoR : Prop := KnN P w K mg base S "undo" 1 CR (fun _ : RI => pur) (Stands S CR) (fun _ x => [.ref x.p])
  (fun i x d x' => d = .bl (decide (i.2.2 ≠ [])) ∧ x'.p = x.p ∧ x'.ls = x.ls ∧ Ply S CR i.1.1 i.1.2.1 i.1.2.2 i.2.1 i.2.2.dropLast x') (fun _ _ _ _ => False)
theorem kn_undoR (F : AtM K CR "undo" "Round.undo" s_Round_undo ["self"]) (RC : RdC K CR) (m1 : mg "len" = none) : Kn_undoR P w K mg base S CR := by
  refine knN_def F sc_Round_undo 0 (fun _ _ => rfl) (fun _ _ => rfl) (fun i x => [.rd x]) (fun _ _ => rfl) fun f cdv Ar outer s H E i x G hc hr po hx => ?_
  obtain ⟨⟨l, r, st⟩, n, ws⟩ := i
  obtain ⟨g, n1, n2, wl, ok, h⟩ := hc
  dsimp only at g n1 n2 wl ok h ⊢
  have hu := Room.hu hr
  have h1 := h.ds
  refine s_if ?_; refine tt_cmp (d_eq hu) ?_; refine tk_len m1 ?_
  refine tk_rdf 0 3 rfl (by rw [h.C]; exact RC.cls) (by rw [h.C]; exact RC.at 3 rfl) h.nd (by rw [h.fs]; rfl) (by rw [h1]; rfl) ?_
  show Tk _ _ _ _
  refine tk_i ?_; refine ⟨rfl, rfl, ?_⟩
  rw [deq_int]
  refine cB_dec (fun h3 => ?_) (fun h3 => s_end ?_)
  · have hw : ws = [] := by
      rw [List.length_map] at h3
      exact List.eq_nil_of_length_eq_zero (by omega)
    subst hw
    exact s_retR 0 rfl rfl (tk_b ⟨rfl, rfl, rfl, h⟩)
  · have hw : ws ≠ [] := fun z => h3 (by rw [z]; rfl)
    refine s_rdpop 0 rfl (by rw [h.C]; exact RC.cls) (by rw [h.C]; exact RC.at 2 rfl) h.nd h.sf (fun z => ?_) ?_
    · have := congrArg List.length z
      rw [h.ss, pre_len] at this
      cases this
    refine s_rdfld 0 rfl (by show Cls _ x.C; rw [h.C]; exact RC.cls) (by show NoAttr _ x.C _; rw [h.C]; exact RC.at 3 rfl) h.nd h.f2 (by show x.f1.length < 900; rw [h.f1]; decide) ?_
    refine tk_slT ?_
    refine tk_rdf 0 3 rfl (by show Cls _ x.C; rw [h.C]; exact RC.cls) (by show NoAttr _ x.C _; rw [h.C]; exact RC.at 3 rfl) h.nd (by show (x.f1 ++ x.sf :: x.f2)[3]? = _; rw [h.fs]; rfl) (by show (x.d1 ++ .ref x.ls :: x.d2)[3]? = _; rw [h1]; rfl) ?_
    refine tp_none ?_
    refine tp_some ?_
    refine tk_neg ?_; refine tk_i ?_
    obtain ⟨c1, c2⟩ := cutD_last (xs := ws.map .str) (fun z => hw (List.map_eq_nil_iff.mp z))
    refine ⟨c1, fun o => ?_⟩
    refine s_retR 0 rfl rfl (tk_b ⟨?_, rfl, rfl, h.C, h.f1, h.d1, h.sf, ?_, h.f2, ?_⟩)
    · rw [decide_eq_true hw]
    · show x.st.dropLast = _
      rw [h.ss, pre_cut hw]
    · show [D.tup (Fz.cutD _ none (some (-1)))] = _
      rw [c2, List.map_dropLast]
theorem sc_Round_copy : FnScope ["self", "found"] ["self"] (defScope s_Round_copy) := ⟨rfl, rfl, rfl, by decide +kernel, rfl, by decide +kernel, by decide +kernel⟩
variable (P w K mg base S CR) in
abbrev Kn_copyR : Prop := KnC2 P w K mg base S "copy" 6 CR (fun _ : RI => pur) (Stands S CR) (fun _ x => [.ref x.p]) (fun i _ x2 => Ply S CR i.1.1 i.1.2.1 i.1.2.2 i.2.1 i.2.2 x2)
theorem kn_copyR (F : AtM K CR "copy" "Round.copy" s_Round_copy ["self"]) (RC : RdC K CR) (F1 : Kn_RoundR P w K mg base S CR CN) (m1 : mg "list" = none) : Kn_copyR P w K mg base S CR := by
  refine knC2_def F sc_Round_copy 0 (fun _ _ => rfl) (fun _ _ => rfl) (fun i x => [.rd x, .no]) (fun _ _ => rfl) fun f cdv Ar outer s H E i x G hc hr => ?_
  obtain ⟨⟨l, r, st⟩, n, ws⟩ := i
  obtain ⟨g, n1, n2, wl, ok, h⟩ := hc
  dsimp only at g n1 n2 wl ok h ⊢
  have h1 := h.ds
  refine s_newR 1 (tkn_make F1 hr ?_) sc_Round_copy.nd (hl := (by show 1 < 2; decide))
  refine ta_cons ?_
  refine tk_rdf 0 0 rfl (by rw [h.C]; exact RC.cls) (by rw [h.C]; exact RC.at 0 rfl) h.nd (by rw [h.fs]; rfl) (by rw [h1]; rfl) ?_
  refine ta_cons ?_
  refine tk_rdf 0 1 rfl (by rw [h.C]; exact RC.cls) (by rw [h.C]; exact RC.at 1 rfl) h.nd (by rw [h.fs]; rfl) (by rw [h1]; rfl) ?_
  refine ta_nil ?_
  have hw : within (.int (n : Int)) 1 500 = true := by
    show (decide ((1 : Int) ≤ n) && decide ((n : Int) ≤ 500)) = true
    rw [decide_eq_true (by omega), decide_eq_true (by omega)]
    rfl
  refine ⟨((l, r, st), .int (n : Int)), rfl, ⟨g, typed_int⟩, fun c fs z => ?_, hw, fun x2 hp => ?_⟩
  · have := z.1
    dsimp only at this
    rw [hw] at this
    cases this
  dsimp only at hp
  rw [show (toI (.int (n : Int))).toNat = n from Int.toNat_natCast _] at hp
  refine s_rdcopy 1 0 rfl rfl (by rw [hp.C]; exact RC.cls) (by rw [hp.C]; exact RC.at 2 rfl) hp.nd hp.sf (by rw [h.C]; exact RC.cls) (by rw [h.C]; exact RC.at 2 rfl) h.nd h.sf (by rw [hp.f1, hp.f2]; decide) m1 fun o ls => ?_
  refine s_rdfld 1 rfl (by show Cls _ x2.C; rw [hp.C]; exact RC.cls) (by show NoAttr _ x2.C _; rw [hp.C]; exact RC.at 3 rfl) hp.nd hp.f2 (by show x2.f1.length < 900; rw [hp.f1]; decide) ?_
  refine tk_rdf 0 3 rfl (by rw [h.C]; exact RC.cls) (by rw [h.C]; exact RC.at 3 rfl) h.nd (by rw [h.fs]; rfl) (by rw [h1]; rfl) ?_
  intro o2
  exact s_retC 0 1 rfl rfl (by decide) rfl ⟨hp.C, hp.f1, hp.d1, hp.sf, h.ss, hp.f2, rfl⟩
theorem sc_Round_len : FnScope ["self"] ["self"] (defScope s_Round_len) := ⟨rfl, rfl, rfl, by decide +kernel, rfl, by decide +kernel, by decide +kernel⟩
variable (P w K mg base S CR) in
abbrev Kn_lenR : Prop := KnN P w K mg base S "__len__" 1 CR (fun _ : RI => pur) (Stands S CR) (fun _ x => [.ref x.p]) (fun i x d x' => x' = x ∧ d = .int (i.2.2.length : Int)) (fun _ _ _ _ => False)
theorem kn_lenR (F : AtM K CR "__len__" "Round.__len__" s_Round_len ["self"]) (RC : RdC K CR) (m1 : mg "len" = none) : Kn_lenR P w K mg base S CR := by
  refine knN_def F sc_Round_len 0 (fun _ _ => rfl) (fun _ _ => rfl) (fun i x => [.rd x]) (fun _ _ => rfl) fun f cdv Ar outer s H E i x G hc hr po hx => ?_
  have h := hc.pl
  refine s_retR 0 rfl rfl ?_
  refine tk_len m1 ?_
  refine tk_rdf 0 3 rfl (by rw [h.C]; exact RC.cls) (by rw [h.C]; exact RC.at 3 rfl) h.nd (by rw [h.fs]; rfl) (by rw [h.ds]; rfl) ?_
  refine ⟨rfl, ?_⟩
  show D.int _ = D.int _
  rw [List.length_map]
/-- a new round as data (for one that is refused at once) -/
def rd0 (S CR : Addr) (l r s : Int) (n : Int) : D := .ins CR rdFs [shD S l r s, .int n, .lst [.tup [.int 0, .int 0, .int 0, fr 1]], .tup []]
variable (P w K mg base S CR CN) in
abbrev Kn_Round : Prop := KnC P w K mg base S "Round" 4 CR (fun i : (Int × Int × Int) × D => Good i.1.1 i.1.2.1 i.1.2.2 ∧ Typed i.2) (fun i => within i.2 1 500 = true) (fun i => [shD S i.1.1 i.1.2.1 i.1.2.2, i.2]) (fun i => rd0 S CR i.1.1 i.1.2.1 i.1.2.2 (toI i.2))
  (fun i c fs => within i.2 1 500 = false ∧ c = CN ∧ fs = [(("n" : Str), i.2)])
theorem kn_Round (F : AtC K mg "Round" "Round.__init__" CR s_Round_init ["self", "shares", "n"]) (RC : RdC K CR) (F1 : Kn_need_number P w K mg base S CN) (c1 : Co K mg S "ONE" (fr 1)) (c2 : Co K mg S "MOST_SEATS" (.int 500)) : Kn_Round P w K mg base S CR CN := by
  obtain ⟨f, fd, hm, M, F0, hb⟩ := F.ex
  refine ⟨f, fd, _, hm, M, hb, ini_ok F0 sc_Round_init (fun _ => rfl) (fun a i => [.ow (some a) (.ins CR [] []), .val (shD S i.1.1 i.1.2.1 i.1.2.2), .val i.2]) (fun _ _ => rfl) fun cdv Ar outer s H H0 E a i G hc hr po hx => ?_⟩
  obtain ⟨⟨l, r, st⟩, dn⟩ := i
  obtain ⟨hg, tn⟩ := hc
  dsimp only at hg tn hx ⊢
  refine s_expr (tk_knX F1 hr (rz_def (M := pur) fun c fs od G1 H1 g _ => hx c fs od G1 H1 g) ?_)
  refine ta_cons ?_; refine tk_v 2 rfl ?_; refine ta_cons ?_; refine tk_i ?_; refine ta_cons ?_; refine tk_co c2 ?_
  refine ta_nil ?_
  refine ⟨(_, _, _), rfl, tn, .inl rfl, fun _ _ z => z, fun _ h => ?_⟩
  have hw := h.1
  dsimp only at hw
  obtain ⟨n, rfl, h1, h2⟩ := within_int hw
  refine s_fst 0 rfl RC.cls (RC.at 0 rfl) (by decide +kernel) (by decide) ?_
  refine tk_v 1 rfl ?_
  refine s_fst 0 rfl RC.cls (RC.at 1 rfl) (by decide +kernel) (by decide) ?_
  refine tk_v 2 rfl ?_
  refine s_fst 0 rfl RC.cls (RC.at 2 rfl) (by decide +kernel) (by decide) ?_
  refine tk_lst ?_; refine ta_cons ?_; refine tk_tup ?_; refine ta_cons ?_; refine tk_i ?_; refine ta_cons ?_
  refine tk_i ?_; refine ta_cons ?_; refine tk_i ?_; refine ta_cons ?_; refine tk_co c1 ?_; refine ta_nil ?_
  refine ⟨lenOk (Nat.le_of_ble_eq_true rfl), ?_⟩; refine ta_nil ?_; refine ⟨lenOk (Nat.le_of_ble_eq_true rfl), ?_⟩
  refine s_fst 0 rfl RC.cls (RC.at 3 rfl) (by decide +kernel) (by decide) ?_
  refine tk_tup ?_; refine ta_nil ?_; refine ⟨lenOk (Nat.le_of_ble_eq_true rfl), ?_⟩
  exact s_nil fun kp σ H' G' s' g' => ⟨_, G', s', hw, _, rfl⟩
end
/-! ## Shares: properties, == -/
section
variable {P : Program} {w : World} {K : PySem.W.Frag} {mg : Str → Option Value} {base : Heap} {S CE CN CJ CC : Addr}
theorem sc_Shares_left : FnScope ["self"] ["self"] (defScope s_Shares_left) := ⟨rfl, rfl, rfl, by decide +kernel, rfl, by decide +kernel, by decide +kernel⟩
variable (P w K mg base S) in
abbrev Kg_left : Prop := KnG P w K mg base S "left" 1 S (fun _ : Int × Int × Int => pur) (fun _ => True) (fun i => [shD S i.1 i.2.1 i.2.2]) (fun i d => d = .int i.1)
theorem kg_left (F : AtG K S "left" "Shares.left" s_Shares_left ["self"]) (FC : ShC K S) : Kg_left P w K mg base S := by
  refine kg_def F sc_Shares_left (fun _ => rfl) (fun i => [.val (shD S i.1 i.2.1 i.2.2)]) (fun _ => rfl) fun f cdv Ar outer s H E i G hc hr po => ?_
  refine s_ret ?_; refine tk_fld 0 FC.cls (FC.at 0 rfl) shFs_nd ?_; refine tk_v 0 rfl ?_; refine ⟨_, _, rfl, rfl, ?_⟩
  rfl
theorem sc_Shares_right : FnScope ["self"] ["self"] (defScope s_Shares_right) := ⟨rfl, rfl, rfl, by decide +kernel, rfl, by decide +kernel, by decide +kernel⟩
variable (P w K mg base S) in
abbrev Kg_right : Prop := KnG P w K mg base S "right" 1 S (fun _ : Int × Int × Int => pur) (fun _ => True) (fun i => [shD S i.1 i.2.1 i.2.2]) (fun i d => d = .int i.2.1)
theorem kg_right (F : AtG K S "right" "Shares.right" s_Shares_right ["self"]) (FC : ShC K S) : Kg_right P w K mg base S := by
  refine kg_def F sc_Shares_right (fun _ => rfl) (fun i => [.val (shD S i.1 i.2.1 i.2.2)]) (fun _ => rfl) fun f cdv Ar outer s H E i G hc hr po => ?_
  refine s_ret ?_; refine tk_fld 1 FC.cls (FC.at 1 rfl) shFs_nd ?_; refine tk_v 0 rfl ?_; refine ⟨_, _, rfl, rfl, ?_⟩
  rfl
theorem sc_Shares_stay : FnScope ["self"] ["self"] (defScope s_Shares_stay) := ⟨rfl, rfl, rfl, by decide +kernel, rfl, by decide +kernel, by decide +kernel⟩
variable (P w K mg base S) in
abbrev Kg_stay : Prop := KnG P w K mg base S "stay" 1 S (fun _ : Int × Int × Int => pur) (fun _ => True) (fun i => [shD S i.1 i.2.1 i.2.2]) (fun i d => d = .int i.2.2)
theorem kg_stay (F : AtG K S "stay" "Shares.stay" s_Shares_stay ["self"]) (FC : ShC K S) : Kg_stay P w K mg base S := by
  refine kg_def F sc_Shares_stay (fun _ => rfl) (fun i => [.val (shD S i.1 i.2.1 i.2.2)]) (fun _ => rfl) fun f cdv Ar outer s H E i G hc hr po => ?_
  refine s_ret ?_; refine tk_fld 2 FC.cls (FC.at 2 rfl) shFs_nd ?_; refine tk_v 0 rfl ?_; refine ⟨_, _, rfl, rfl, ?_⟩
  rfl
theorem sc_Shares_eq : FnScope ["self", "other"] ["self", "other"] (defScope s_Shares_eq) := ⟨rfl, rfl, rfl, by decide +kernel, rfl, by decide +kernel, by decide +kernel⟩
/-- shares against shares or a tuple -/
def shEqA (S : Addr) (i : (Int × Int × Int) × ((Int × Int × Int) ⊕ List D)) : List D := match i.2 with
  | .inl y => [shD S i.1.1 i.1.2.1 i.1.2.2, shD S y.1 y.2.1 y.2.2]
  | .inr ds => [shD S i.1.1 i.1.2.1 i.1.2.2, .tup ds]
def shEqR (i : (Int × Int × Int) × ((Int × Int × Int) ⊕ List D)) : Bool := match i.2 with
  | .inl y => decide (i.1 = y)
  | .inr _ => false
variable (P w K mg base S) in
abbrev Kn_eq : Prop := KnM P w K mg base S "__eq__" 1 S (fun _ : (Int × Int × Int) × ((Int × Int × Int) ⊕ List D) => pur) (fun _ => True) (shEqA S) (fun i d => d = .bl (shEqR i)) (fun _ _ _ => False)
theorem kn_eq (F : AtM K S "__eq__" "Shares.__eq__" s_Shares_eq ["self", "other"]) (FC : ShC K S) (IC : C8.InsC K S) (kt : PySem.W.kitOne K (.type "tuple") (.ref S) = some false) (m1 : mg "isinstance" = none) (m2 : mg "Shares" = some (.ref S)) : Kn_eq P w K mg base S := by
  refine km_def F sc_Shares_eq (fun i => by obtain ⟨x, y | ds⟩ := i <;> rfl) (fun i => (shEqA S i).map En.val) (fun i => by obtain ⟨x, y | ds⟩ := i <;> rfl) fun f cdv Ar outer s H E i G hc hr po hx => ?_
  obtain ⟨⟨l, r, t⟩, y | ds⟩ := i
  · obtain ⟨l', r', t'⟩ := y
    have hu := Room.hu hr
    show Tss _ [.val (shD S l r t), .val (shD S l' r' t')] _ _
    refine s_if ?_; refine tt_not ?_; refine tt_val ?_; refine tk_isC IC kt m1 m2 ?_; refine tk_v 1 rfl ?_
    refine .inl ⟨_, _, rfl, s_end ?_⟩
    refine s_ret ?_; refine tk_and ?_; refine tk_cmp (d_eq hu) ?_; refine tk_fld 0 FC.cls (FC.at 0 rfl) shFs_nd ?_; refine tk_v 0 rfl ?_; refine ⟨_, _, rfl, rfl, ?_⟩; refine tk_fld 0 FC.cls (FC.at 0 rfl) shFs_nd ?_; refine tk_v 1 rfl ?_; refine ⟨_, _, rfl, rfl, ?_⟩; refine ⟨rfl, rfl, ?_⟩
    rw [deq_int]
    have fin : ∀ {b : Bool}, b = decide ((l, r, t) = (l', r', t')) → D.bl b = D.bl (shEqR ((l, r, t), .inl (l', r', t'))) := fun h => by rw [h]; rfl
    refine cB_dec (fun h1 => ?_) (fun h1 => ?_)
    · refine tk_and ?_; refine tk_cmp (d_eq hu) ?_; refine tk_fld 1 FC.cls (FC.at 1 rfl) shFs_nd ?_; refine tk_v 0 rfl ?_; refine ⟨_, _, rfl, rfl, ?_⟩; refine tk_fld 1 FC.cls (FC.at 1 rfl) shFs_nd ?_; refine tk_v 1 rfl ?_; refine ⟨_, _, rfl, rfl, ?_⟩; refine ⟨rfl, rfl, ?_⟩
      rw [deq_int]
      refine cB_dec (fun h2 => ?_) (fun h2 => ?_)
      · refine tk_one ?_; refine tk_cmp (d_eq hu) ?_; refine tk_fld 2 FC.cls (FC.at 2 rfl) shFs_nd ?_; refine tk_v 0 rfl ?_; refine ⟨_, _, rfl, rfl, ?_⟩; refine tk_fld 2 FC.cls (FC.at 2 rfl) shFs_nd ?_; refine tk_v 1 rfl ?_; refine ⟨_, _, rfl, rfl, ?_⟩; refine ⟨rfl, rfl, ?_⟩
        rw [deq_int]
        refine fin (decide_eq_decide.mpr ?_)
        subst h1 h2
        exact ⟨fun z => by rw [z], fun z => by injection z with _ z; injection z⟩
      · refine fin (decide_eq_false fun z => h2 ?_).symm
        injection z with _ z
        injection z
    · refine fin (decide_eq_false fun z => h1 ?_).symm
      injection z
  · show Tss _ [.val (shD S l r t), .val (.tup ds)] _ _
    refine s_if ?_; refine tt_not ?_; refine tt_val ?_; refine tk_isC IC kt m1 m2 ?_; refine tk_v 1 rfl ?_
    refine .inr ⟨_, rfl, ?_⟩
    refine s_ret ?_; refine tk_b ?_
    rfl
end
/-! ## the law's own -/
section
variable {P : Program} {w : World} {K : PySem.W.Frag} {mg : Str → Option Value} {base : Heap} {S CR CE CN CJ CC CB CD : Addr}
theorem sc__law_told : FnScope ["_law_play", "_law_word", "_law_told_here"] ["_law_play", "_law_word"] (defScope s__law_told) := ⟨rfl, rfl, rfl, by decide +kernel, rfl, by decide +kernel, by decide +kernel⟩
variable (P w K mg base S CR) in
abbrev Kn__law_told : Prop := KnF P w K mg base S "_law_told" 5 (fun _ : RI × D => pur) (fun i x => Stands S CR i.1 x ∧ Typed i.2 ∧ (pEnd i.1.2.1 (stas i.1.1.1 i.1.1.2.1 i.1.1.2.2 i.1.2.2).1 = true ∨ goodW i.1.1.1 i.1.1.2.1 i.1.1.2.2 i.2 = none)) (fun i x => [.ref x.p, i.2])
  (fun i x d x' => x' = x ∧ d = .str (if pEnd i.1.2.1 (stas i.1.1.1 i.1.1.2.1 i.1.1.2.2 i.1.2.2).1 = true then "ended" else "throw")) (fun _ _ _ _ => False)
theorem kn__law_told (F : At K mg "_law_told" s__law_told ["_law_play", "_law_word"]) (RC : RdC K CR) (F1 : Kn_throwR P w K mg base S CR CB CD) (e1 : mg "BadThrow" = some (.ref CB)) (e2 : mg "Ended" = some (.ref CD))
    (p1 : PySem.W.exmOne K (.ref CB) (.ref CB) = some true) (p2 : PySem.W.exmOne K (.ref CD) (.ref CB) = some false) (p3 : PySem.W.exmOne K (.ref CD) (.ref CD) = some true) : Kn__law_told P w K mg base S CR := by
  refine knF_def F sc__law_told 0 (fun _ _ => rfl) (fun _ _ => rfl) (fun i x => [.rd x, .val i.2, .no]) (fun _ _ => rfl) fun f cdv Ar outer s H E i x G hc hr po hx => ?_
  obtain ⟨⟨⟨l, r, st⟩, n, ws⟩, dw⟩ := i
  obtain ⟨hs, tw, hbad⟩ := hc
  dsimp only at hs tw hbad hx ⊢
  have h := hs.pl
  obtain ⟨pe, epe⟩ : ∃ pe, pe = pEnd n (stas l r st ws).1 := ⟨_, rfl⟩
  rw [← epe] at hbad ⊢
  refine s_set 2 ?_ sc__law_told.nd; refine tk_n ?_
  refine s_tryR (YR := fun c fs => (pe = true ∧ c = CD) ∨ (pe = false ∧ c = CB)) rfl rfl ((takes_of rfl rfl rfl rfl).imp fun _ _ _ _ z => z.elim) (.bare ⟨rfl, by decide, .inl e1⟩ (.bare ⟨rfl, by decide, .inl e2⟩ .nil)) (fun c fs hy => ?_) (fun pn xe po1 rz => ?_)
  · rcases hy with ⟨hp, rfl⟩ | ⟨hp, rfl⟩
    · refine ⟨rfl, false, p2, fun _ => ⟨rfl, true, p3, fun z => (nomatch z), fun _ a oe pn => ?_⟩, fun z => (nomatch z)⟩
      refine s_set 2 ?_ sc__law_told.nd; refine tk_s ?_
      refine s_hendR rfl ?_
      refine s_retR 0 rfl rfl (tk_v 2 rfl ⟨rfl, ?_⟩)
      rw [hp]
      rfl
    · refine ⟨rfl, true, p1, fun z => (nomatch z), fun _ a oe pn => ?_⟩
      refine s_set 2 ?_ sc__law_told.nd; refine tk_s ?_
      refine s_hendR rfl ?_
      refine s_retR 0 rfl rfl (tk_v 2 rfl ⟨rfl, ?_⟩)
      rw [hp]
      rfl
  · refine s_expr (tk_methRX 0 F1 RC.cls hr rz rfl h.C (by rw [h.fs]; decide +kernel) ?_)
    refine ta_cons ?_; refine tk_v 1 rfl ?_; refine ta_nil ?_
    refine ⟨(((l, r, st), n, ws), dw), rfl, ⟨hs, tw⟩, .inl rfl, fun c fs z => ?_, fun d x' z => ?_⟩
    · have z2 := z.2
      dsimp only at z2
      rw [← epe] at z2
      rcases z2 with ⟨a, b⟩ | ⟨a, _, b⟩
      · exact .inl ⟨a, b⟩
      · exact .inr ⟨a, b⟩
    · obtain ⟨a, wd, b, _⟩ := z
      dsimp only at a b
      rw [← epe] at a
      rcases hbad with e | e
      · rw [a] at e; cases e
      · rw [b] at e; cases e
theorem sc__law_begun : FnScope ["_law_shares", "_law_n", "_law_told_here", "e"] ["_law_shares", "_law_n"] (defScope s__law_begun) := ⟨rfl, rfl, rfl, by decide +kernel, rfl, by decide +kernel, by decide +kernel⟩
variable (P w K mg base S) in
abbrev Kn__law_begun : Prop := KnP P w K mg base S "_law_begun" 6 (fun i : (Int × Int × Int) × D => Good i.1.1 i.1.2.1 i.1.2.2 ∧ Typed i.2 ∧ within i.2 1 500 = false) (fun i => [shD S i.1.1 i.1.2.1 i.1.2.2, i.2]) (fun i => .lst [i.2])
theorem kn__law_begun (F : At K mg "_law_begun" s__law_begun ["_law_shares", "_law_n"]) (F1 : Kn_Round P w K mg base S CR CN) (e1 : mg "BadNumber" = some (.ref CN)) (x1 : XfD K CN "n") (p1 : PySem.W.exmOne K (.ref CN) (.ref CN) = some true) : Kn__law_begun P w K mg base S := by
  refine kn_def F sc__law_begun (fun _ => rfl) (fun i => [.val (shD S i.1.1 i.1.2.1 i.1.2.2), .val i.2, .no, .no]) (fun _ => rfl) fun f cdv Ar outer s H E i G hc hr po hx => ?_
  obtain ⟨⟨l, r, st⟩, dn⟩ := i
  obtain ⟨hg, tn, hw⟩ := hc
  dsimp only at hg tn hw hx ⊢
  refine s_set 2 ?_ sc__law_begun.nd; refine tk_lst ?_; refine ta_nil ?_; refine ⟨lenOk (Nat.le_of_ble_eq_true rfl), ?_⟩
  refine s_try (YR := fun c fs => c = CN ∧ fs = [(("n" : Str), dn)]) rfl rfl ((takes_of rfl rfl rfl rfl).imp fun _ _ _ _ z => z.elim) (noOwn_of rfl) (.named (i := 3) ⟨rfl, by decide, .inl e1⟩ sc__law_begun.nd rfl rfl .nil) (fun c fs hy => ?_) (fun pn xe G1 H1 po1 rz L => ?_)
  · obtain ⟨rfl, rfl⟩ := hy
    refine ⟨true, p1, fun z => (nomatch z), fun _ a oe pn G1 H1 hS L => ?_⟩
    refine s_set 2 ?_ sc__law_begun.nd; refine tk_lst ?_; refine ta_cons ?_
    refine tk_xf 3 hS x1 rfl rfl ?_
    refine ta_nil ?_; refine ⟨lenOk (Nat.le_of_ble_eq_true rfl), ?_⟩
    refine s_hend L ?_
    refine s_ret ?_; refine tk_v 2 rfl ?_
    rfl
  · refine s_expr (tk_makeX F1 hr rz ?_)
    refine ta_cons ?_; refine tk_v 0 rfl ?_; refine ta_cons ?_; refine tk_v 1 rfl ?_; refine ta_nil ?_
    refine ⟨((l, r, st), dn), rfl, ⟨hg, tn⟩, fun c fs z => z.2, fun z => ?_⟩
    dsimp only at z
    rw [hw] at z
    cases z
end
section
variable {P : Program} {w : World} {K : PySem.W.Frag} {mg : Str → Option Value} {base : Heap} {S CR CE CN CJ CC CB CD : Addr}
def stepN (n : Nat) (w : Str) : Int := if w = "left" then (n : Int) - 1 else if w = "right" then 1 else 0
theorem stepN_at {n : Nat} {s : Str} (h : s ∈ W3) : ∃ i : Nat, ([.inr "left", .inr "right", .inr "stay"] : List Key)[i]? = some (.inr s) ∧ [D.int ((n : Int) - 1), D.int 1, D.int 0][i]? = some (.int (stepN n s)) := by
  simp only [W3, List.mem_cons, List.not_mem_nil, or_false] at h
  rcases h with rfl | rfl | rfl
  · exact ⟨0, rfl, rfl⟩
  · exact ⟨1, rfl, rfl⟩
  · exact ⟨2, rfl, rfl⟩
theorem dK_at {l r st : Int} {s : Str} (h : s ∈ W3) : ∃ i : Nat, dK[i]? = some (.inr s) ∧ [D.int l, D.int r, D.int st][i]? = some (.int (shW l r st s)) := by
  simp only [W3, List.mem_cons, List.not_mem_nil, or_false] at h
  rcases h with rfl | rfl | rfl
  · exact ⟨0, rfl, rfl⟩
  · exact ⟨1, rfl, rfl⟩
  · exact ⟨2, rfl, rfl⟩
theorem stepN_mod {n : Nat} (n1 : 1 ≤ n) (p : Int) {s : Str} : (p + stepN n s) % (n : Int) = (p + stepW s) % (n : Int) := by
  unfold stepN stepW
  split
  · rw [show p + ((n : Int) - 1) = (p + -1) + n by omega, Int.add_emod_right]
  · rfl
theorem stepN_sz {n : Nat} (n1 : 1 ≤ n) (n6 : n ≤ 6) (s : Str) : 0 ≤ stepN n s ∧ stepN n s ≤ 5 := by
  unfold stepN
  split
  · omega
  · split <;> omega
theorem phi_rng {n : Nat} (n1 : 1 ≤ n) (k : PK) : 0 ≤ (phi n k).1 ∧ (phi n k).1 < n := ⟨Int.emod_nonneg _ (by omega), Int.emod_lt_of_pos _ (by omega)⟩
theorem phi_len (n : Nat) (k : PK) : (phi n k).2.length ≤ n := Nat.le_trans (List.length_filter_le _ _) (by rw [List.length_map, List.length_range]; exact Nat.le_refl _)
theorem phi_mem {n : Nat} {k : PK} : ∀ x ∈ (phi n k).2, 0 ≤ x ∧ x < n := fun x hx => by
  obtain ⟨y, hy, rfl⟩ := List.mem_map.mp (List.mem_filter.mp hx).1
  have := List.mem_range.mp hy
  exact ⟨Int.natCast_nonneg y, Int.ofNat_lt.mpr this⟩
theorem sc__law_thrown : FnScope ["_law_d", "_law_n", "_law_s", "_law_word", "_law_place", "_law_had", "_law_part", "_law_words", "_law_step", "_law_there", "_law_share"] ["_law_d", "_law_n", "_law_s", "_law_word"] (defScope s__law_thrown) := ⟨rfl, rfl, rfl, by decide +kernel, rfl, by decide +kernel, by decide +kernel⟩
variable (P w K mg base S) in
abbrev Kn__law_thrown : Prop := KnP P w K mg base S "_law_thrown" 3 (fun i : RI × Str => Good i.1.1.1 i.1.1.2.1 i.1.1.2.2 ∧ 1 ≤ i.1.2.1 ∧ i.1.2.1 ≤ 6 ∧ i.1.2.2.length ≤ 20 ∧ Okw i.1.1.1 i.1.1.2.1 i.1.1.2.2 i.1.2.1 i.1.2.2 ∧ i.2 ∈ W3 ∧ pLive i.1.2.1 (stas i.1.1.1 i.1.1.2.1 i.1.1.2.2 i.1.2.2).1 = true)
  (fun i => [dD i.1.1.1 i.1.1.2.1 i.1.1.2.2, .int (i.1.2.1 : Int), lawS i.1.1.1 i.1.1.2.1 i.1.1.2.2 i.1.2.1 i.1.2.2, .str i.2]) (fun i => lawS i.1.1.1 i.1.1.2.1 i.1.1.2.2 i.1.2.1 (i.1.2.2 ++ [i.2]))
set_option maxHeartbeats 2000000 in
theorem kn__law_thrown (F : At K mg "_law_thrown" s__law_thrown ["_law_d", "_law_n", "_law_s", "_law_word"]) (F1 : Kn__law_frac P w K mg base S) (F2 : Kn_l2 P w K mg base S "_law_times" (fun a b => a * b)) (m3 : mg "tuple" = none) (m4 : mg "sorted" = none) (m5 : mg "set" = none) : Kn__law_thrown P w K mg base S := by
  refine kn_def F sc__law_thrown (fun _ => rfl) (fun i => [.val (dD i.1.1.1 i.1.1.2.1 i.1.1.2.2), .val (.int (i.1.2.1 : Int)), .val (lawS i.1.1.1 i.1.1.2.1 i.1.1.2.2 i.1.2.1 i.1.2.2), .val (.str i.2), .no, .no, .no, .no, .no, .no, .no]) (fun _ => rfl) fun f cdv Ar outer s H E i G hc hr po hx => ?_
  obtain ⟨⟨⟨l, r, st⟩, n, ws⟩, wd⟩ := i
  obtain ⟨g, n1, n6, wl, ok, hw, hlive⟩ := hc
  dsimp only at g n1 n6 wl ok hw hlive ⊢
  have hu1 := Room.hu1 hr
  obtain ⟨l1, l9, r1, r9, s0, s9⟩ := id g
  have hab := shW_of ⟨l1, l9⟩ ⟨r1, r9⟩ ⟨s0, s9⟩ wd
  have hsh := share_sz ⟨l1, l9⟩ ⟨r1, r9⟩ ⟨s0, s9⟩ wd
  have hsz := ok.sz ⟨l1, l9⟩ ⟨r1, r9⟩ ⟨s0, s9⟩
  have hok := ok.ok n1
  have hnext := ((phi_at6 n1 n6).2 _ hok).2.2 hlive _ (stepW_mem wd)
  obtain ⟨pg0, pg1⟩ := phi_rng n1 (stas l r st ws).1
  have plen := phi_len n (stas l r st ws).1
  have pmem := phi_mem (n := n) (k := (stas l r st ws).1)
  have hst := stepN_sz n1 n6 wd
  have hmod := stepN_mod n1 (phi n (stas l r st ws).1).1 (s := wd)
  obtain ⟨j, j1, j2⟩ := stepN_at (n := n) hw
  obtain ⟨j', j1', j2'⟩ := dK_at (l := l) (r := r) (st := st) hw
  have hres : lawS l r st n (ws ++ [wd]) = .tup [.int (nextL n (phi n (stas l r st ws).1) (stepW wd)).1, .tup ((nextL n (phi n (stas l r st ws).1) (stepW wd)).2.map .int), fr ((stas l r st ws).2 * Rat.divInt (shW l r st wd) (l + r + st)), .tup (ws.map .str ++ [.str wd])] := by
    unfold lawS
    rw [stas_app, ← hnext, List.map_append]
    rfl
  rw [hres]
  unfold lawS
  unfold nextL
  generalize (phi n (stas l r st ws).1).1 = pl at *
  generalize (phi n (stas l r st ws).1).2 = had at *
  generalize (stas l r st ws).2 = ch at *
  refine s_unp [4,5,6,7] ?_ ?hg ?hc; case hc => rfl
  case hg => exact pgs_cons (pg_name (i := 4) sc__law_thrown.nd rfl (.inl rfl)) (pgs_cons (pg_name (i := 5) sc__law_thrown.nd rfl (.inl rfl)) (pgs_cons (pg_name (i := 6) sc__law_thrown.nd rfl (.inl rfl)) (pgs_cons (pg_name (i := 7) sc__law_thrown.nd rfl (.inl rfl)) (pgs_nil))))
  refine tk_v 2 rfl ?_; refine ⟨rfl, ?_⟩
  show Tss _ [.val (dD l r st), .val (.int (n : Int)), _, .val (.str wd), .val (.int pl), .val (.tup (had.map .int)), .val (fr ch), .val (.tup (ws.map .str)), .no, .no, .no] _ _
  refine s_set 8 ?_ sc__law_thrown.nd
  refine tk_dgetV j stepK_nd ?_ hu1
  refine @TkS.h _ _ _ _ ?_
  refine ⟨?_⟩
  refine @tk_disp3 _ _ _ _ _ _ _ _ _ _ _ _ _ _ _ _ stepK_nd ?_
  refine tk_bin d_sub ?_; refine tk_v 1 rfl ?_; refine tk_i ?_; refine tk_i ?_; refine tk_i ?_; refine ⟨_, .int (stepN n wd), rfl, ?_⟩
  refine tk_v 3 rfl ?_; refine ⟨j1, j2, ?_⟩
  refine s_set 9 ?_ sc__law_thrown.nd; refine tk_bin d_mod ?_; refine tk_bin d_add ?_; refine tk_v 4 rfl ?_; refine tk_v 8 rfl ?_; refine tk_v 1 rfl ?_
  refine ⟨by omega, ?_⟩
  show Tss _ [_, _, _, _, _, _, _, _, _, .val (.int ((pl + stepN n wd) % (n : Int))), _] _ _
  rw [hmod]
  have th0 : 0 ≤ (pl + stepW wd) % (n : Int) := Int.emod_nonneg _ (by omega)
  have th1 : (pl + stepW wd) % (n : Int) < n := Int.emod_lt_of_pos _ (by omega)
  generalize (pl + stepW wd) % (n : Int) = th at *
  refine s_set 10 ?_ sc__law_thrown.nd; refine tk_knP F1 hr ?_; refine ta_cons ?_; refine tk_dgetV j' dK_nd ?_ hu1; refine tk_v 0 rfl ?_; refine ⟨_, .int (shW l r st wd), rfl, ?_⟩
  refine tk_v 3 rfl ?_; refine ⟨j1', j2', ?_⟩; refine ta_cons ?_; refine tk_bin d_add ?_; refine tk_bin d_add ?_; refine tk_dget 0 dK_nd ?_ hu1; refine tk_v 0 rfl ?_; refine ⟨_, _, rfl, rfl, ?_⟩
  refine tk_dget 1 dK_nd ?_ hu1; refine tk_v 0 rfl ?_; refine ⟨_, _, rfl, rfl, ?_⟩; refine tk_dget 2 dK_nd ?_ hu1; refine tk_v 0 rfl ?_; refine ⟨_, _, rfl, rfl, ?_⟩; refine ta_nil ?_
  refine ⟨(shW l r st wd, l + r + st), rfl, ⟨by show l + r + st ≠ 0; omega, (Sz.small (x := shW l r st wd) 8 (by omega) (by omega)).mono (by decide), (Sz.small (x := l + r + st) 8 (by omega) (by omega)).mono (by decide)⟩, ?_⟩
  refine s_ret ?_; refine tk_tup ?_; refine ta_cons ?_; refine tk_v 9 rfl ?_; refine ta_cons ?_; refine tk_tupleL m3 ?_
  refine tk_sortSet rfl m4 m5 ?_; refine tk_bin d_addT ?_; refine tk_v 5 rfl ?_; refine tk_tup ?_; refine ta_cons ?_; refine tk_v 9 rfl ?_
  refine ta_nil ?_; refine ⟨lenOk (Nat.le_of_ble_eq_true rfl), ?_⟩
  refine ⟨?_, had ++ [th], ?_, ?_, fun out ho hm => ?_⟩
  · rw [List.length_map]
    exact Nat.le_trans (show had.length + 1 ≤ 1000 by omega) (lenOk (Nat.le_refl _))
  · rw [List.map_append]; rfl
  · rw [List.length_append, List.length_singleton]; omega
  have eo : out = sortL n (had ++ [th]) := sortL_eq (fun x hx => by
    rcases List.mem_append.mp hx with z | z
    · exact pmem x z
    · rw [List.mem_singleton.mp z]; exact ⟨th0, th1⟩) ho hm
  subst eo
  refine ta_cons ?_; refine tk_knP F2 hr ?_; refine ta_cons ?_; refine tk_v 6 rfl ?_; refine ta_cons ?_; refine tk_v 10 rfl ?_
  refine ta_nil ?_
  refine ⟨(ch, Rat.divInt (shW l r st wd) (l + r + st)), rfl, ⟨hsz.mono (by omega), hsh.mono (by decide)⟩, ?_⟩
  refine ta_cons ?_; refine tk_bin d_addT ?_; refine tk_v 7 rfl ?_; refine tk_tup ?_; refine ta_cons ?_; refine tk_v 3 rfl ?_
  refine ta_nil ?_; refine ⟨lenOk (Nat.le_of_ble_eq_true rfl), ?_⟩
  refine ⟨?_, ?_⟩
  · rw [List.length_map]
    exact Nat.le_trans (show ws.length + 1 ≤ 1000 by omega) (lenOk (Nat.le_refl _))
  refine ta_nil ?_; refine ⟨lenOk (Nat.le_of_ble_eq_true rfl), ?_⟩
  rfl
/-! equality of the law's values -/
theorem dOk_intsT (m : Nat) (xs : List Int) : dOk (m + 1) (.tup (xs.map .int)) = true := by
  rw [dOk, List.all_map]
  exact List.all_eq_true.mpr fun x _ => by cases m <;> rfl
theorem w3_ok {w : Str} (h : w ∈ W3) : PyData.strOk w = true := (List.all_eq_true (l := W3) (p := fun w => PyData.strOk w)).mp (by decide +kernel) w h
theorem dOk_w3 (m : Nat) {ws : List Str} (h : ∀ w ∈ ws, w ∈ W3) : dOk (m + 1) (.tup (ws.map .str)) = true := by
  rw [dOk, List.all_map]
  exact List.all_eq_true.mpr fun x hx => by
    show dOk m (.str x) = true
    have := w3_ok (h x hx)
    cases m <;> exact this
theorem dOk_lawS {l r st : Int} {n : Nat} {ws : List Str} (h : ∀ w ∈ ws, w ∈ W3) (m : Nat) : dOk (m + 3) (lawS l r st n ws) = true := by
  unfold lawS
  rw [dOk, List.all_cons, List.all_cons, List.all_cons, List.all_cons, List.all_nil, dOk_intsT (m + 1), dOk_w3 (m + 1) h]
  rfl
theorem deqA_strlen : ∀ {us vs : List Str}, us.length ≠ vs.length → PyData.eqvAll (pyL (us.map .str)) (pyL (vs.map .str)) = false
  | [], [], h => absurd rfl h
  | [], v :: vs, _ => deqA_nc _ _
  | u :: us, [], _ => deqA_cn _ _
  | u :: us, v :: vs, h => by
    rw [List.map_cons, List.map_cons, deqA_cons, deqA_strlen (us := us) (vs := vs) (fun z => h (by rw [List.length_cons, List.length_cons, z])), Bool.and_false]
theorem deq_lawS {l r st : Int} {n : Nat} {us vs : List Str} (h : us.length ≠ vs.length) : deq (lawS l r st n us) (lawS l r st n vs) = false := by
  unfold lawS
  rw [deq_tup, deqA_cons, deqA_cons, deqA_cons, deqA_cons, show deq (.tup (us.map .str)) (.tup (vs.map .str)) = false from by rw [deq_tup, deqA_strlen h], Bool.false_and, Bool.and_false, Bool.and_false, Bool.and_false]
end
section
variable {P : Program} {w : World} {K : PySem.W.Frag} {mg : Str → Option Value} {base : Heap} {S CR CE CN CJ CC CB CD : Addr}
theorem dOk_last (b : Bool) (m : Int) : dOk 8 (if b = true then .int m else .non) = true := by cases b <;> rfl
theorem sc__law_is : FnScope ["_law_play", "_law_d", "_law_n", "_law_s", "_law_place", "_law_had", "_law_part", "_law_words"] ["_law_play", "_law_d", "_law_n", "_law_s"] (defScope s__law_is) := ⟨rfl, rfl, rfl, by decide +kernel, rfl, by decide +kernel, by decide +kernel⟩
variable (P w K mg base S CR) in
abbrev Kn__law_is : Prop := KnF P w K mg base S "_law_is" 6 (fun _ : RI => pur) (fun i x => Stands S CR i x ∧ i.2.1 ≤ 6) (fun i x => [.ref x.p, dD i.1.1 i.1.2.1 i.1.2.2, .int (i.2.1 : Int), lawS i.1.1 i.1.2.1 i.1.2.2 i.2.1 i.2.2])
  (fun _ x d x' => x' = x ∧ d = .bl true) (fun _ _ _ _ => False)
set_option maxHeartbeats 2000000 in
theorem kn__law_is (F : At K mg "_law_is" s__law_is ["_law_play", "_law_d", "_law_n", "_law_s"]) (RC : RdC K CR) (H1 : Kh_rd P w K mg base S CR "holder" 2 (fun i => .int (phi i.2.1 (stas i.1.1 i.1.2.1 i.1.2.2 i.2.2).1).1)) (H2 : Kh_rd P w K mg base S CR "had" 2 (fun i => .tup ((phi i.2.1 (stas i.1.1 i.1.2.1 i.1.2.2 i.2.2).1).2.map .int))) (H3 : Kh_rd P w K mg base S CR "chance" 1 (fun i => fr (stas i.1.1 i.1.2.1 i.1.2.2 i.2.2).2)) (H4 : Kh_rd P w K mg base S CR "log" 1 (fun i => .tup (i.2.2.map .str)))
    (H5 : Kh_rd P w K mg base S CR "last" 2 (fun i => if pEnd i.2.1 (stas i.1.1 i.1.2.1 i.1.2.2 i.2.2).1 = true then .int (phi i.2.1 (stas i.1.1 i.1.2.1 i.1.2.2 i.2.2).1).1 else .non)) (H6 : Kh_rd P w K mg base S CR "number" 1 (fun i => .int (i.2.1 : Int))) (H7 : Kh_rd P w K mg base S CR "shares" 1 (fun i => shD S i.1.1 i.1.2.1 i.1.2.2)) (F8 : Kn_lenR P w K mg base S CR) (F5 : Kn__law_made P w K mg base S) (F9 : Kn_eq P w K mg base S) (nf : PySem.W.notFirst K S (.type "tuple") = true) (m1 : mg "len" = none) : Kn__law_is P w K mg base S CR := by
  refine knF_def F sc__law_is 0 (fun _ _ => rfl) (fun _ _ => rfl) (fun i x => [.rd x, .val (dD i.1.1 i.1.2.1 i.1.2.2), .val (.int (i.2.1 : Int)), .val (lawS i.1.1 i.1.2.1 i.1.2.2 i.2.1 i.2.2), .no, .no, .no, .no]) (fun _ _ => rfl) fun f cdv Ar outer s H E i x G hc hr po hx => ?_
  obtain ⟨⟨l, r, st⟩, n, ws⟩ := i
  obtain ⟨hs, n6⟩ := hc
  dsimp only at hs n6 hx ⊢
  have hu := Room.hu hr
  have hu0 : (Ar.deeper (envOfC "_law_is" (defScope s__law_is) s.heap.objs.size f cdv)).units < cLine := by have := hr.un; omega
  obtain ⟨g, n1, n2, wl, ok, h⟩ := id hs
  dsimp only at g n1 n2 wl ok h
  have hW := ok.w3
  have o1 := dOk_intsT 6 (phi n (stas l r st ws).1).2
  have o2 := dOk_w3 6 hW
  have hpe := ((phi_at6 n1 n6).2 _ (ok.ok n1)).2.1
  unfold lawS
  refine s_unp [4,5,6,7] ?_ ?hg ?hc; case hc => rfl
  case hg => exact pgs_cons (pg_name (i := 4) sc__law_is.nd rfl (.inl rfl)) (pgs_cons (pg_name (i := 5) sc__law_is.nd rfl (.inl rfl)) (pgs_cons (pg_name (i := 6) sc__law_is.nd rfl (.inl rfl)) (pgs_cons (pg_name (i := 7) sc__law_is.nd rfl (.inl rfl)) (pgs_nil))))
  refine tk_v 3 rfl ?_; refine ⟨rfl, ?_⟩
  show Tss _ [.rd x, .val (dD l r st), .val (.int (n : Int)), _, .val (.int (phi n (stas l r st ws).1).1), .val (.tup ((phi n (stas l r st ws).1).2.map .int)), .val (fr (stas l r st ws).2), .val (.tup (ws.map .str))] _ _
  refine s_if ?_; refine tt_cmp (d_ne hu) ?_; refine tk_lst ?_; refine ta_cons ?_
  refine tk_propR 0 H1 RC.cls hr rfl h.C ⟨((l, r, st), n, ws), rfl, hs, .inl rfl, ?_⟩
  rintro d x' ⟨e1, rfl⟩
  refine ⟨e1, ?_⟩
  clear e1
  refine ta_cons ?_
  refine tk_propR 0 H2 RC.cls hr rfl h.C ⟨((l, r, st), n, ws), rfl, hs, .inl rfl, ?_⟩
  rintro d x' ⟨e1, rfl⟩
  refine ⟨e1, ?_⟩
  clear e1
  refine ta_cons ?_
  refine tk_propR 0 H3 RC.cls hr rfl h.C ⟨((l, r, st), n, ws), rfl, hs, .inl rfl, ?_⟩
  rintro d x' ⟨e1, rfl⟩
  refine ⟨e1, ?_⟩
  clear e1
  refine ta_cons ?_
  refine tk_propR 0 H4 RC.cls hr rfl h.C ⟨((l, r, st), n, ws), rfl, hs, .inl rfl, ?_⟩
  rintro d x' ⟨e1, rfl⟩
  refine ⟨e1, ?_⟩
  clear e1
  refine ta_cons ?_
  refine tk_lenR 0 F8 m1 hr rfl h.C ⟨((l, r, st), n, ws), rfl, hs, .inl rfl, fun _ _ z => z, ?_⟩
  rintro d x' ⟨e1, rfl⟩
  refine ⟨e1, ws.length, rfl, by omega, ?_⟩
  clear e1
  refine ta_nil ?_; refine ⟨lenOk (Nat.le_of_ble_eq_true rfl), ?_⟩; refine tk_lst ?_; refine ta_cons ?_; refine tk_v 4 rfl ?_; refine ta_cons ?_
  refine tk_v 5 rfl ?_; refine ta_cons ?_; refine tk_v 6 rfl ?_; refine ta_cons ?_; refine tk_v 7 rfl ?_; refine ta_cons ?_
  refine tk_len m1 ?_; refine tk_v 7 rfl ?_
  show Ta _ _ _ _
  refine ta_nil ?_; refine ⟨lenOk (Nat.le_of_ble_eq_true rfl), ?_⟩
  have ob : dOk 8 (.lst [.int (phi n (stas l r st ws).1).1, .tup ((phi n (stas l r st ws).1).2.map .int), fr (stas l r st ws).2, .tup (ws.map .str), .int (ws.length : Int)]) = true := by
    rw [dOk, List.all_cons, List.all_cons, List.all_cons, List.all_cons, List.all_cons, List.all_nil, o1, o2]
    rfl
  dsimp only
  rw [show (ws.map D.str).length = ws.length from List.length_map _]
  refine ⟨ob, ob, ?_⟩
  rw [deq_self ob]
  refine s_end ?_
  refine s_retR 0 rfl rfl ?_
  refine tk_and ?_; refine tk_cmp (d_eq hu) ?_
  refine tk_propR 0 H5 RC.cls hr rfl h.C ⟨((l, r, st), n, ws), rfl, hs, .inl rfl, ?_⟩
  rintro d x' ⟨e1, rfl⟩
  refine ⟨e1, ?_⟩
  clear e1
  dsimp only
  have ol := dOk_last (pEnd n (stas l r st ws).1) (phi n (stas l r st ws).1).1
  refine tk_if ?_; refine tt_cmp (d_eq hu) ?_; refine tk_len m1 ?_; refine tk_v 5 rfl ?_
  show Tk _ _ _ _
  refine tk_v 2 rfl ?_; refine ⟨rfl, rfl, ?_⟩
  rw [deq_int]
  have hdec : decide (((((phi n (stas l r st ws).1).2.map D.int).length : Nat) : Int) = (n : Int)) = pEnd n (stas l r st ws).1 := by
    rw [hpe, List.length_map]
    unfold lEnd
    exact decide_eq_decide.mpr Int.ofNat_inj
  rw [hdec]
  cases hp : pEnd n (stas l r st ws).1 with
  | true =>
    rw [hp] at ol
    refine tk_v 4 rfl ?_
    refine ⟨ol, rfl, ?_⟩
    rw [if_pos rfl, deq_int, decide_eq_true rfl]
    refine tk_and ?_; refine tk_cmp (d_eq hu) ?_
    refine tk_propR 0 H6 RC.cls hr rfl h.C ⟨((l, r, st), n, ws), rfl, hs, .inl rfl, ?_⟩
    rintro d x' ⟨e1, rfl⟩
    refine ⟨e1, ?_⟩
    clear e1
    refine tk_v 2 rfl ?_; refine ⟨rfl, rfl, ?_⟩
    rw [deq_int, decide_eq_true rfl]
    refine tk_one ?_; refine tk_cmp (d_eqC F9 nf hu0 hr) ?_
    refine tk_propR 0 H7 RC.cls hr rfl h.C ⟨((l, r, st), n, ws), rfl, hs, .inl rfl, ?_⟩
    rintro d x' ⟨e1, rfl⟩
    refine ⟨e1, ?_⟩
    clear e1
    refine tk_knP F5 hr ?_; refine ta_cons ?_; refine tk_v 1 rfl ?_; refine ta_nil ?_; refine ⟨(l, r, st), rfl, g, ?_⟩
    refine ⟨⟨_, _, rfl⟩, .inl ⟨_, _, rfl⟩, ((l, r, st), .inl (l, r, st)), rfl, trivial, ?_⟩
    refine ⟨rfl, ?_⟩
    show D.bl (decide ((l, r, st) = (l, r, st))) = _
    rw [decide_eq_true rfl]
  | false =>
    refine tk_n ?_
    refine ⟨rfl, rfl, ?_⟩
    refine tk_and ?_; refine tk_cmp (d_eq hu) ?_
    refine tk_propR 0 H6 RC.cls hr rfl h.C ⟨((l, r, st), n, ws), rfl, hs, .inl rfl, ?_⟩
    rintro d x' ⟨e1, rfl⟩
    refine ⟨e1, ?_⟩
    clear e1
    refine tk_v 2 rfl ?_; refine ⟨rfl, rfl, ?_⟩
    rw [deq_int, decide_eq_true rfl]
    refine tk_one ?_; refine tk_cmp (d_eqC F9 nf hu0 hr) ?_
    refine tk_propR 0 H7 RC.cls hr rfl h.C ⟨((l, r, st), n, ws), rfl, hs, .inl rfl, ?_⟩
    rintro d x' ⟨e1, rfl⟩
    refine ⟨e1, ?_⟩
    clear e1
    refine tk_knP F5 hr ?_; refine ta_cons ?_; refine tk_v 1 rfl ?_; refine ta_nil ?_; refine ⟨(l, r, st), rfl, g, ?_⟩
    refine ⟨⟨_, _, rfl⟩, .inl ⟨_, _, rfl⟩, ((l, r, st), .inl (l, r, st)), rfl, trivial, ?_⟩
    refine ⟨rfl, ?_⟩
    show D.bl (decide ((l, r, st) = (l, r, st))) = _
    rw [decide_eq_true rfl]
end
section
variable {P : Program} {w : World} {K : PySem.W.Frag} {mg : Str → Option Value} {base : Heap} {S CR CE CN CJ CC CB CD : Addr}
def lw3 (st : Int) : Str := if 0 < st then "stay" else "right"
theorem lw3_pos {st : Int} (h : 0 < st) : lw3 st = "stay" := if_pos h
theorem lw3_neg {st : Int} (h : ¬ 0 < st) : lw3 st = "right" := if_neg h
theorem typed_str {s : Str} : Typed (.str s) := ⟨_, rfl⟩
theorem odd_ok {l r st : Int} {d : D} (h : d ∈ [D.non, .str "", .str "Left", .int 1, .tup [.str "left"]]) : Typed d ∧ goodW l r st d = none := by
  simp only [List.mem_cons, List.not_mem_nil, or_false] at h
  rcases h with rfl | rfl | rfl | rfl | rfl
  · exact ⟨⟨_, rfl⟩, rfl⟩
  · exact ⟨⟨_, rfl⟩, by rw [goodW_str, if_neg (fun z => absurd z.1 (by decide +kernel))]⟩
  · exact ⟨⟨_, rfl⟩, by rw [goodW_str, if_neg (fun z => absurd z.1 (by decide +kernel))]⟩
  · exact ⟨⟨_, rfl⟩, rfl⟩
  · exact ⟨⟨_, rfl⟩, rfl⟩
theorem stay_odd {l r : Int} : Typed (.str "stay") ∧ goodW l r 0 (.str "stay") = none := ⟨⟨_, rfl⟩, by rw [goodW_str, if_neg (fun z => absurd z.2 (by show ¬ (0 : Int) < shW l r 0 "stay"; unfold shW; rw [if_neg (by decide +kernel), if_neg (by decide +kernel)]; decide))]⟩
theorem shW_stay {l r st : Int} : shW l r st "stay" = st := by unfold shW; rw [if_neg (by decide +kernel), if_neg (by decide +kernel)]
theorem shW_left {l r st : Int} : shW l r st "left" = l := by unfold shW; rw [if_pos rfl]
theorem shW_right {l r st : Int} : shW l r st "right" = r := by unfold shW; rw [if_neg (by decide +kernel), if_pos rfl]
theorem deq_ended : deq (.str "ended") (.str "ended") = true := deq_self (n := 8) (by decide +kernel)
theorem deq_throw : deq (.str "throw") (.str "throw") = true := deq_self (n := 8) (by decide +kernel)
theorem ok_ended : dOk 8 (.str "ended") = true := by decide +kernel
theorem ok_throw : dOk 8 (.str "throw") = true := by decide +kernel
theorem sc__law_moved : FnScope ["_law_row", "_law_play", "_law_d", "_law_n", "_law_s", "_law_word", "_law_odd"] ["_law_row", "_law_play", "_law_d", "_law_n", "_law_s"] (defScope s__law_moved) := ⟨rfl, rfl, rfl, by decide +kernel, rfl, by decide +kernel, by decide +kernel⟩
variable (P w K mg base S CR) in
abbrev Kn__law_moved : Prop := KnF P w K mg base S "_law_moved" 6 (fun i : Addr × RI => rowM K i.1) (fun i x => Stands S CR i.2 x ∧ i.2.2.1 ≤ 6 ∧ i.2.2.2.length ≤ 20) (fun i x => [.ref i.1, .ref x.p, dD i.2.1.1 i.2.1.2.1 i.2.1.2.2, .int (i.2.2.1 : Int), lawS i.2.1.1 i.2.1.2.1 i.2.1.2.2 i.2.2.1 i.2.2.2])
  (fun i x d x' => x'.p = x.p ∧ x'.ls = x.ls ∧ ∃ ws', (ws' = i.2.2.2 ∨ ∃ wd, ws' = i.2.2.2 ++ [wd]) ∧ Ply S CR i.2.1.1 i.2.1.2.1 i.2.1.2.2 i.2.2.1 ws' x' ∧ Okw i.2.1.1 i.2.1.2.1 i.2.1.2.2 i.2.2.1 ws' ∧ d = .lst [.bl true, lawS i.2.1.1 i.2.1.2.1 i.2.1.2.2 i.2.2.1 ws']) (fun _ _ _ _ => False)
set_option maxHeartbeats 2000000 in
theorem kn__law_moved (F : At K mg "_law_moved" s__law_moved ["_law_row", "_law_play", "_law_d", "_law_n", "_law_s"]) (RC : RdC K CR) (F1 : Kn_taken P w K mg base S) (F2 : Kn__law_told P w K mg base S CR) (F3 : Kn__law_thrown P w K mg base S) (F4 : Kn_throwR P w K mg base S CR CB CD) (m1 : mg "len" = none) (m2 : mg "int" = none) : Kn__law_moved P w K mg base S CR := by
  refine knF_def F sc__law_moved 1 (fun _ _ => rfl) (fun _ _ => rfl) (fun i x => [.val (.ref i.1), .rd x, .val (dD i.2.1.1 i.2.1.2.1 i.2.1.2.2), .val (.int (i.2.2.1 : Int)), .val (lawS i.2.1.1 i.2.1.2.1 i.2.1.2.2 i.2.2.1 i.2.2.2), .no, .no]) (fun _ _ => rfl) fun f cdv Ar outer s H E i x G hc hr po hx => ?_
  obtain ⟨q, ⟨l, r, st⟩, n, ws⟩ := i
  obtain ⟨hs, n6, w20⟩ := hc
  dsimp only at hs n6 w20 hx ⊢
  have hu := Room.hu hr
  have hu1 := Room.hu1 hr
  obtain ⟨g, n1, n2, wl, ok, h⟩ := id hs
  dsimp only at g n1 n2 wl ok h
  obtain ⟨l1, l9, r1, r9, s0, s9⟩ := id g
  have hok := ok.ok n1
  have hpe := ((phi_at6 n1 n6).2 _ hok).2.1
  have hdec : decide (((((phi n (stas l r st ws).1).2.map D.int).length : Nat) : Int) = (n : Int)) = pEnd n (stas l r st ws).1 := by
    rw [hpe, List.length_map]
    unfold lEnd
    exact decide_eq_decide.mpr Int.ofNat_inj
  refine s_if ?_; refine tt_cmp (d_eq hu) ?_; refine tk_len m1 ?_; refine tk_ix ?_; refine tk_v 4 rfl ?_; refine tk_i ?_
  refine ⟨_, rfl, ?_⟩
  show Tk _ _ _ _
  refine tk_v 3 rfl ?_; refine ⟨rfl, rfl, ?_⟩
  rw [deq_int, hdec]
  cases hp : pEnd n (stas l r st ws).1 with
  | true =>
    refine s_set 5 ?_ sc__law_moved.nd; refine tk_ix ?_; refine tk_lst ?_; refine ta_cons ?_; refine tk_s ?_; refine ta_cons ?_
    refine tk_s ?_; refine ta_cons ?_; refine tk_n ?_; refine ta_cons ?_; refine tk_s ?_; refine ta_nil ?_
    refine ⟨lenOk (Nat.le_of_ble_eq_true rfl), ?_⟩; refine tk_taken F1 hr 0 rfl rfl ?_; refine tk_i ?_; refine ⟨_, rfl, by decide, by decide, fun v h1 h2 => ?_⟩
    obtain ⟨wd, hat, hmem⟩ := atI_some (xs := [D.str "left", .str "stay", .non, .str ""]) h1 h2
    refine ⟨wd, hat, ?_⟩
    have tw : Typed wd := by
      simp only [List.mem_cons, List.not_mem_nil, or_false] at hmem
      rcases hmem with rfl | rfl | rfl | rfl <;> exact ⟨_, rfl⟩
    refine s_retR 1 rfl rfl ?_
    refine tk_lst ?_; refine ta_cons ?_; refine tk_cmp (d_eq hu) ?_; refine tk_fnG 1 F2 hr rfl (ta_cons (tk_vr 1 rfl ?_)); refine ta_cons ?_; refine tk_v 5 rfl ?_
    refine ta_nil ?_
    refine ⟨(((l, r, st), n, ws), wd), rfl, ⟨hs, tw, .inl hp⟩, .inl rfl, fun _ _ z => z, ?_⟩
    rintro d x' ⟨e1, rfl⟩
    refine ⟨e1, ?_⟩
    dsimp only
    rw [hp, if_pos rfl]
    refine tk_s ?_; refine ⟨ok_ended, ok_ended, ?_⟩; refine ta_cons ?_; refine tk_v 4 rfl ?_; refine ta_nil ?_; refine ⟨lenOk (Nat.le_of_ble_eq_true rfl), ?_⟩
    rw [deq_ended]
    exact ⟨rfl, rfl, ws, .inl rfl, h, ok, rfl⟩
  | false =>
    refine s_end ?_
    refine s_if ?_; refine tt_cmp (d_eq hu) ?_; refine tk_taken F1 hr 0 rfl rfl ?_; refine tk_i ?_; refine ⟨_, rfl, by decide, by decide, fun v h1 h2 => ?_⟩; refine tk_i ?_
    refine ⟨rfl, rfl, ?_⟩
    rw [deq_int]
    refine cB_dec (fun hv => ?_) (fun hv => s_end ?_)
    · by_cases hst : st = 0
      · refine s_set 6 ?_ sc__law_moved.nd; refine tk_bin d_add ?_; refine tk_lst ?_; refine ta_cons ?_; refine tk_n ?_; refine ta_cons ?_
        refine tk_s ?_; refine ta_cons ?_; refine tk_s ?_; refine ta_cons ?_; refine tk_i ?_; refine ta_cons ?_
        refine tk_tup ?_; refine ta_cons ?_; refine tk_s ?_; refine ta_nil ?_; refine ⟨lenOk (Nat.le_of_ble_eq_true rfl), ?_⟩; refine ta_nil ?_
        refine ⟨lenOk (Nat.le_of_ble_eq_true rfl), ?_⟩; refine tk_bin d_mul ?_; refine tk_lst ?_; refine ta_cons ?_; refine tk_s ?_; refine ta_nil ?_
        refine ⟨lenOk (Nat.le_of_ble_eq_true rfl), ?_⟩; refine tk_int m2 ?_; refine tk_cmp (d_eq hu) ?_; refine tk_dget 2 dK_nd ?_ hu1; refine tk_v 2 rfl ?_; refine ⟨_, _, rfl, rfl, ?_⟩; refine tk_i ?_; refine ⟨rfl, rfl, ?_⟩
        rw [deq_int, decide_eq_true hst]
        refine ⟨by decide, by decide, lenOk (by decide), ?_⟩
        rw [flat_one]
        refine ⟨lenOk (by decide), ?_⟩
        show Tss _ [_, _, _, _, _, _, .val (.lst [D.non, .str "", .str "Left", .int 1, .tup [.str "left"], .str "stay"])] _ _
        refine s_retR 1 rfl rfl ?_
        refine tk_lst ?_; refine ta_cons ?_; refine tk_cmp (d_eq hu) ?_; refine tk_fnG 1 F2 hr rfl (ta_cons (tk_vr 1 rfl ?_)); refine ta_cons ?_; refine tk_ix ?_
        refine tk_v 6 rfl ?_; refine tk_taken F1 hr 0 rfl rfl ?_; refine tk_len m1 ?_; refine tk_v 6 rfl ?_; refine ⟨6, rfl, by decide, by decide, fun v h1 h2 => ?_⟩
        obtain ⟨wd, hat, hmem⟩ := atI_some (xs := [D.non, .str "", .str "Left", .int 1, .tup [.str "left"], .str "stay"]) h1 h2
        refine ⟨wd, hat, ?_⟩
        have tw : Typed wd ∧ goodW l r st wd = none := by
          rcases List.mem_append.mp (show wd ∈ [D.non, .str "", .str "Left", .int 1, .tup [.str "left"]] ++ [.str "stay"] from hmem) with z | z
          · exact odd_ok z
          · rw [List.mem_singleton.mp z, hst]; exact stay_odd
        refine ta_nil ?_
        refine ⟨(((l, r, st), n, ws), wd), rfl, ⟨hs, tw.1, .inr tw.2⟩, .inl rfl, fun _ _ z => z, ?_⟩
        rintro d x' ⟨e1, rfl⟩
        refine ⟨e1, ?_⟩
        dsimp only
        rw [hp, if_neg Bool.false_ne_true]
        refine tk_s ?_; refine ⟨ok_throw, ok_throw, ?_⟩; refine ta_cons ?_; refine tk_v 4 rfl ?_; refine ta_nil ?_; refine ⟨lenOk (Nat.le_of_ble_eq_true rfl), ?_⟩
        rw [deq_throw]
        exact ⟨rfl, rfl, ws, .inl rfl, h, ok, rfl⟩
      · refine s_set 6 ?_ sc__law_moved.nd; refine tk_bin d_add ?_; refine tk_lst ?_; refine ta_cons ?_; refine tk_n ?_; refine ta_cons ?_
        refine tk_s ?_; refine ta_cons ?_; refine tk_s ?_; refine ta_cons ?_; refine tk_i ?_; refine ta_cons ?_
        refine tk_tup ?_; refine ta_cons ?_; refine tk_s ?_; refine ta_nil ?_; refine ⟨lenOk (Nat.le_of_ble_eq_true rfl), ?_⟩; refine ta_nil ?_
        refine ⟨lenOk (Nat.le_of_ble_eq_true rfl), ?_⟩; refine tk_bin d_mul ?_; refine tk_lst ?_; refine ta_cons ?_; refine tk_s ?_; refine ta_nil ?_
        refine ⟨lenOk (Nat.le_of_ble_eq_true rfl), ?_⟩; refine tk_int m2 ?_; refine tk_cmp (d_eq hu) ?_; refine tk_dget 2 dK_nd ?_ hu1; refine tk_v 2 rfl ?_; refine ⟨_, _, rfl, rfl, ?_⟩; refine tk_i ?_; refine ⟨rfl, rfl, ?_⟩
        rw [deq_int, decide_eq_false hst]
        refine ⟨by decide, by decide, lenOk (by decide), ?_⟩
        rw [flat_one]
        refine ⟨lenOk (by decide), ?_⟩
        show Tss _ [_, _, _, _, _, _, .val (.lst [D.non, .str "", .str "Left", .int 1, .tup [.str "left"]])] _ _
        refine s_retR 1 rfl rfl ?_
        refine tk_lst ?_; refine ta_cons ?_; refine tk_cmp (d_eq hu) ?_; refine tk_fnG 1 F2 hr rfl (ta_cons (tk_vr 1 rfl ?_)); refine ta_cons ?_; refine tk_ix ?_
        refine tk_v 6 rfl ?_; refine tk_taken F1 hr 0 rfl rfl ?_; refine tk_len m1 ?_; refine tk_v 6 rfl ?_; refine ⟨5, rfl, by decide, by decide, fun v h1 h2 => ?_⟩
        obtain ⟨wd, hat, hmem⟩ := atI_some (xs := [D.non, .str "", .str "Left", .int 1, .tup [.str "left"]]) h1 h2
        refine ⟨wd, hat, ?_⟩
        have tw : Typed wd ∧ goodW l r st wd = none := odd_ok hmem
        refine ta_nil ?_
        refine ⟨(((l, r, st), n, ws), wd), rfl, ⟨hs, tw.1, .inr tw.2⟩, .inl rfl, fun _ _ z => z, ?_⟩
        rintro d x' ⟨e1, rfl⟩
        refine ⟨e1, ?_⟩
        dsimp only
        rw [hp, if_neg Bool.false_ne_true]
        refine tk_s ?_; refine ⟨ok_throw, ok_throw, ?_⟩; refine ta_cons ?_; refine tk_v 4 rfl ?_; refine ta_nil ?_; refine ⟨lenOk (Nat.le_of_ble_eq_true rfl), ?_⟩
        rw [deq_throw]
        exact ⟨rfl, rfl, ws, .inl rfl, h, ok, rfl⟩
    · refine s_set 5 ?_ sc__law_moved.nd; refine tk_ix ?_; refine tk_lst ?_; refine ta_cons ?_; refine tk_s ?_; refine ta_cons ?_
      refine tk_s ?_; refine ta_cons ?_
      refine Tk.mono (k := fun d => d = .str (lw3 st)) ?_ (fun d e => ?_)
      · refine tk_if ?_; refine tt_cmp d_gt ?_; refine tk_dget 2 dK_nd ?_ hu1; refine tk_v 2 rfl ?_; refine ⟨_, _, rfl, rfl, ?_⟩; refine tk_i ?_
        refine cB_dec (fun hst => ?_) (fun hst => ?_)
        · refine tk_s ?_
          rw [lw3_pos (by omega)]
        · refine tk_s ?_
          rw [lw3_neg (by omega)]
      subst e
      refine ta_nil ?_; refine ⟨lenOk (Nat.le_of_ble_eq_true rfl), ?_⟩; refine tk_taken F1 hr 0 rfl rfl ?_; refine tk_i ?_; refine ⟨_, rfl, by decide, by decide, fun v h1 h2 => ?_⟩
      obtain ⟨wd, hmem, hat⟩ := atI_map (xs := ([("left" : Str), "right", lw3 st] : List Str)) (g := D.str) h1 h2
      refine ⟨.str wd, hat, ?_⟩
      have hwd : wd ∈ W3 ∧ 0 < shW l r st wd := by
        have h3 : wd = "left" ∨ wd = "right" ∨ wd = lw3 st := by
          rcases List.mem_cons.mp hmem with z | z
          · exact .inl z
          · rcases List.mem_cons.mp z with z | z
            · exact .inr (.inl z)
            · exact .inr (.inr (List.mem_singleton.mp z))
        rcases h3 with rfl | rfl | rfl
        · exact ⟨.head _, by rw [shW_left]; omega⟩
        · exact ⟨.tail _ (.head _), by rw [shW_right]; omega⟩
        · by_cases hst : 0 < st
          · rw [lw3_pos hst]
            exact ⟨.tail _ (.tail _ (.head _)), by rw [shW_stay]; exact hst⟩
          · rw [lw3_neg hst]
            exact ⟨.tail _ (.head _), by rw [shW_right]; omega⟩
      have hg : goodW l r st (.str wd) = some wd := by rw [goodW_str, if_pos hwd]
      have hlive : pLive n (stas l r st ws).1 = true := by
        have a1 := of_decide_eq_false hp
        have a2 := hok.2.2.1
        exact decide_eq_true (by omega)
      refine s_retRR 1 rfl (tkr_lst2 (tkr_cmp d_is (tkr_meth 1 F4 RC.cls hr rfl h.C (by rw [h.fs]; decide +kernel) ?_)))
      refine ta_cons ?_; refine tk_v 5 rfl ?_; refine ta_nil ?_
      refine ⟨(((l, r, st), n, ws), .str wd), rfl, ⟨hs, typed_str⟩, .inl rfl, fun c fs z => ?_, ?_⟩
      · have z2 := z.2
        dsimp only at z2
        rw [hp, hg] at z2
        rcases z2 with ⟨a, _⟩ | ⟨_, a, _⟩ <;> cases a
      rintro d x' ⟨_, wd', hg', rfl, e1, e2, hp', hk'⟩
      dsimp only at hg' hp' hk'
      rw [hg] at hg'
      cases hg'
      refine ⟨e1, e2, ?_⟩
      refine tk_n ?_
      show Tk _ _ _ _
      refine tk_knP F3 hr ?_; refine ta_cons ?_; refine tk_v 2 rfl ?_; refine ta_cons ?_; refine tk_v 3 rfl ?_; refine ta_cons ?_
      refine tk_v 4 rfl ?_; refine ta_cons ?_; refine tk_v 5 rfl ?_; refine ta_nil ?_
      refine ⟨(((l, r, st), n, ws), wd), rfl, ⟨g, n1, n6, w20, ok, hwd.1, hlive⟩, ?_⟩
      exact ⟨x', rfl, e1, e2, ws ++ [wd], .inr ⟨wd, rfl⟩, hp', hk', rfl⟩
end
section
variable {P : Program} {w : World} {K : PySem.W.Frag} {mg : Str → Option Value} {base : Heap} {S CR CE CN CJ CC CB CD : Addr}
theorem cut_pre (f : List Str → D) (ws : List Str) : Fz.cutD (pre f ws) none (some (max 1 (((pre f ws).length : Int) - 1))) = pre f ws.dropLast := by
  rw [pre_len]
  have e : max (1 : Int) (((ws.length + 1 : Nat) : Int) - 1) = ((max 1 ws.length : Nat) : Int) := by omega
  rw [e]
  unfold Fz.cutD
  rw [HT.sIx_none, HT.sIx_nat, pre_len, List.drop_zero, Nat.sub_zero]
  by_cases h : ws = []
  · subst h
    rfl
  · have hl := List.length_pos_iff.mpr h
    rw [← pre_cut h, List.dropLast_eq_take, pre_len]
    congr 1
    omega
theorem gt_pre (f : List Str → D) (ws : List Str) : decide ((1 : Int) < ((pre f ws).length : Int)) = decide (ws ≠ []) := by
  rw [pre_len]
  refine decide_eq_decide.mpr ⟨fun h z => ?_, fun h => ?_⟩
  · rw [z] at h
    exact absurd h (by decide)
  · have := List.length_pos_iff.mpr h
    omega
theorem sc_law : FnScope ["_law_script", "_law_row", "_law_d", "_law_n", "_law_play", "_law_states", "_law_twin", "_law_kept", "_law_turn", "_law_good", "_law_later", "_law_bad"] ["_law_script"] (defScope s_law) := ⟨rfl, rfl, rfl, by decide +kernel, rfl, by decide +kernel, by decide +kernel⟩
set_option maxHeartbeats 4000000 in
theorem ok_law {f : Addr} {fd : FuncData} (F : Fun K "law" "law" s_law f fd) (F1 : Kn_taken P w K mg base S) (F2 : Kn__law_drawn P w K mg base S) (F4 : Kn__law_made P w K mg base S) (FR : Kn_RoundR P w K mg base S CR CN) (FC : Kn_copyR P w K mg base S CR) (FU : Kn_undoR P w K mg base S CR) (FM : Kn__law_moved P w K mg base S CR) (FI : Kn__law_is P w K mg base S CR) (FB : Kn__law_begun P w K mg base S) (RC : RdC K CR)
    (m1 : mg "range" = none) (m2 : mg "len" = none) (m3 : mg "max" = none) (m4 : mg "int" = none) : LawOk P w K mg base S 12 f fd := by
  refine def_ok F sc_law (fun _ => rfl) (fun ns => [.val (.rdl (ns.map .int)), .no, .no, .no, .no, .no, .no, .no, .no, .no, .no, .no]) (fun _ => rfl) fun cdv Ar outer s H E ns G hc hr po hx => ?_
  have hu := Room.hu hr
  refine s_row (m := 147) (n := 10) rfl (by decide) hc ?_ (fun q G1 H1 => ?_) sc_law.nd
  · refine ta_cons ?_; refine tk_v 0 rfl ?_; refine ta_cons ?_; refine tk_i ?_; refine ta_cons ?_; refine tk_i ?_
    refine ta_cons ?_; refine tk_i ?_; refine ta_nil ?_
    rfl
  refine s_par 2 3 (ta_two ?_) rfl sc_law.nd; refine tk_kn F2 hr ?_; refine ta_cons ?_; refine tk_v 1 rfl ?_; refine ta_nil ?_
  refine ⟨q, rfl, trivial, .inr rfl, fun _ _ z => z, ?_⟩
  rintro d ⟨p, st, hp, hst, rfl⟩
  have hg := good_of hp hst
  obtain ⟨l, r⟩ := p
  dsimp only at hg
  refine tk_bin d_add ?_; refine tk_i ?_; refine tk_taken F1 hr 1 rfl rfl ?_; refine tk_i ?_; refine ⟨_, rfl, by decide, by decide, fun v h1 h2 => ?_⟩
  obtain ⟨n, n1, n6, en⟩ : ∃ n : Nat, 1 ≤ n ∧ n ≤ 6 ∧ 1 + v = (n : Int) := ⟨(1 + v).toNat, by omega, by omega, by omega⟩
  show Tss _ [_, _, .val (dD l r st), .val (.int (1 + v)), _, _, _, _, _, _, _, _] _ _
  rw [en]
  clear en h1 h2
  have stn : ∀ {ws : List Str} {x : Fz.Rd}, Ply S CR l r st n ws x → Okw l r st n ws → ws.length ≤ 20 → Stands S CR ((l, r, st), n, ws) x := fun a b c => ⟨hg, n1, Nat.le_trans n6 (by decide), Nat.le_trans c (by decide), b, a⟩
  have e0 : lawS l r st n [] = .tup [.int 0, .tup [.int 0], .tup [.int 1, .int 1], .tup []] := by
    show D.tup [.int (phi n (0, 0, 0)).1, .tup ((phi n (0, 0, 0)).2.map .int), fr 1, .tup []] = _
    rw [(phi_at6 n1 n6).1]
    rfl
  have hwn : within (.int (n : Int)) 1 500 = true := by
    show (decide ((1 : Int) ≤ n) && decide ((n : Int) ≤ 500)) = true
    rw [decide_eq_true (by omega), decide_eq_true (by omega)]
    rfl
  refine s_parNV 4 5 (tkn_make FR hr ?_) rfl sc_law.nd (hl := (by show 4 < 12; decide))
  refine ta_cons ?_; refine tk_knP F4 hr ?_; refine ta_cons ?_; refine tk_v 2 rfl ?_; refine ta_nil ?_; refine ⟨(l, r, st), rfl, hg, ?_⟩
  refine ta_cons ?_; refine tk_v 3 rfl ?_; refine ta_nil ?_
  refine ⟨((l, r, st), .int (n : Int)), rfl, ⟨hg, typed_int⟩, fun c fs z => ?_, hwn, fun x hp => ?_⟩
  · have z := z.1
    dsimp only at z
    rw [hwn] at z
    cases z
  dsimp only at hp
  rw [show (toI (.int (n : Int))).toNat = n from Int.toNat_natCast _] at hp
  refine @TkS.h _ _ _ _ ?_; refine tk_lit 20 rfl ?_
  show Tss _ [_, _, _, _, .rd x, .val (.lst [.tup [.int 0, .tup [.int 0], .tup [.int 1, .int 1], .tup []]]), _, _, _, _, _, _] _ _
  rw [← e0]
  refine s_parNV 6 7 (tkn_meth0 4 FC RC.cls hr rfl hp.C (by rw [hp.fs]; decide +kernel) ⟨((l, r, st), n, []), rfl, stn hp .nil (by decide), .inl rfl, fun tw hp2 => ?_⟩) rfl sc_law.nd (hl := (by show 6 < 12; decide))
  refine tk_ix ?_; refine tk_v 5 rfl ?_; refine tk_neg ?_; refine tk_i ?_
  refine ⟨lawS l r st n [], rfl, ?_⟩
  refine s_for1 8 ?_ po rfl sc_law.nd m1
  refine ta_cons ?_; refine tk_i ?_; refine ta_nil ?_
  refine ⟨by decide, by decide, fun j ρ => ∃ (ws : List Str) (x : Fz.Rd) (kws : List Str) (tw : Fz.Rd) (t8 t9 t10 t11 : En), ρ = [.val (.rdl (ns.map .int)), .val (.ref q), .val (dD l r st), .val (.int (n : Int)), .rd x, .val (.lst (pre (lawS l r st n) ws)), .rd tw, .val (lawS l r st n kws), t8, t9, t10, t11] ∧ Ply S CR l r st n ws x ∧ Okw l r st n ws ∧ ws.length ≤ j ∧ Ply S CR l r st n kws tw ∧ Okw l r st n kws ∧ kws.length ≤ 14, ⟨[], x, [], tw, _, _, _, _, rfl, hp, .nil, Nat.le_refl _, hp2, .nil, by decide⟩, ?_, ?_⟩
  · clear hp hp2 x tw
    rintro j ρ' hj ⟨ws, x, kws, tw, t8, t9, t10, t11, rfl, hp, ok, hl, hp2, ok2, hl2⟩
    have hj : j < 14 := hj
    have hs := stn hp ok (by omega)
    have hW := ok.w3
    refine s_if ?_; refine tt_cmp (d_eq hu) ?_; refine tk_taken F1 hr 1 rfl rfl ?_; refine tk_i ?_; refine ⟨_, rfl, by decide, by decide, fun v h1 h2 => ?_⟩; refine tk_i ?_
    refine ⟨rfl, rfl, ?_⟩
    rw [deq_int]
    refine cB_dec (fun hv => ?_) (fun hv => ?_)
    · refine s_ifR (ttr_cmp (d_ne hu) (tkr_meth0 4 FU RC.cls hr rfl hp.C (by rw [hp.fs]; decide +kernel) ⟨((l, r, st), n, ws), rfl, hs, .inl rfl, fun _ _ z => z, ?_⟩))
      rintro d x1 ⟨rfl, e1, e2, hp1⟩
      refine ⟨e1, e2, ?_⟩
      dsimp only at hp1 ⊢
      refine tk_cmp d_gt ?_; refine tk_len m2 ?_; refine tk_v 5 rfl ?_
      show Tk _ _ _ _
      refine tk_i ?_
      refine ⟨rfl, rfl, ?_⟩
      show kB _ (.bl (!deq (.bl (decide (ws ≠ []))) (.bl (decide ((1 : Int) < ((pre (lawS l r st n) ws).length : Int))))))
      rw [gt_pre, deq_self (n := 8) (d := .bl (decide (ws ≠ []))) rfl]
      refine s_end ?_
      refine s_set 5 ?_ sc_law.nd; refine tk_slL ?_; refine tk_v 5 rfl ?_; refine tp_none ?_; refine tp_some ?_; refine tk_max2 rfl m3 ?_
      refine tk_i ?_; refine tk_bin d_sub ?_; refine tk_len m2 ?_; refine tk_v 5 rfl ?_
      show Tk _ _ _ _
      refine tk_i ?_
      show Tss _ [_, _, _, _, .rd x1, .val (.lst (Fz.cutD (pre (lawS l r st n) ws) none (some (max 1 (((pre (lawS l r st n) ws).length : Int) - 1))))), _, _, _, _, _, _] _ _
      rw [cut_pre]
      refine s_end ?_
      have okc := ok.cut
      have hlc : ws.dropLast.length ≤ j + 1 := by rw [List.length_dropLast]; omega
      have hsc := stn hp1 okc (by omega)
      refine s_if ?_; refine tt_not ?_; refine tt_val ?_; refine tk_fnG 4 FI hr rfl (ta_cons (tk_vr 4 rfl ?_)); refine ta_cons ?_; refine tk_v 2 rfl ?_
      refine ta_cons ?_; refine tk_v 3 rfl ?_; refine ta_cons ?_; refine tk_ix ?_; refine tk_v 5 rfl ?_; refine tk_neg ?_
      refine tk_i ?_
      obtain ⟨zs, ez⟩ := pre_last (f := lawS l r st n) (ws := ws.dropLast)
      refine ⟨lawS l r st n (ws.dropLast), by rw [ez]; exact atI_last, ?_⟩
      refine ta_nil ?_
      refine ⟨((l, r, st), n, ws.dropLast), rfl, ⟨hsc, n6⟩, .inl rfl, fun _ _ z => z, ?_⟩
      rintro d x' ⟨e1, rfl⟩
      refine ⟨e1, s_end ?_⟩
      clear e1
      refine s_if ?_; refine tt_cmp (d_eq hu) ?_; refine tk_v 8 rfl ?_; refine tk_i ?_; refine ⟨rfl, rfl, ?_⟩
      rw [deq_int]
      refine cB_dec (fun h6 => ?_) (fun h6 => ?_)
      · refine s_parNV 6 7 (tkn_meth0 4 FC RC.cls hr rfl hp1.C (by rw [hp1.fs]; decide +kernel) ⟨((l, r, st), n, ws.dropLast), rfl, hsc, .inl rfl, fun x2 hp2' => ?_⟩) rfl sc_law.nd (hl := (by show 6 < 12; decide))
        refine tk_ix ?_; refine tk_v 5 rfl ?_; refine tk_neg ?_; refine tk_i ?_
        refine ⟨lawS l r st n (ws.dropLast), by rw [ez]; exact atI_last, ?_⟩
        exact s_end (s_turn ⟨ws.dropLast, _, ws.dropLast, x2, _, _, _, _, rfl, hp1, okc, hlc, hp2', okc, by have := hlc; omega⟩)
      · exact s_end (s_turn ⟨ws.dropLast, _, kws, tw, _, _, _, _, rfl, hp1, okc, hlc, hp2, ok2, hl2⟩)
    · refine s_unpLR [9, 10] (tkr_fn 4 FM hr rfl ?_) ?hg rfl
      case hg => exact pgs_cons (pg_name (i := 9) sc_law.nd rfl (.inl rfl)) (pgs_cons (pg_name (i := 10) sc_law.nd rfl (.inl rfl)) pgs_nil)
      refine ta_cons ?_; refine tk_v 1 rfl ?_; refine ta_cons ?_; refine tk_vr 4 rfl ?_; refine ta_cons ?_; refine tk_v 2 rfl ?_
      refine ta_cons ?_; refine tk_v 3 rfl ?_; refine ta_cons ?_; refine tk_ix ?_; refine tk_v 5 rfl ?_; refine tk_neg ?_
      refine tk_i ?_
      obtain ⟨zs0, ez0⟩ := pre_last (f := lawS l r st n) (ws := ws)
      refine ⟨lawS l r st n ws, by rw [ez0]; exact atI_last, ?_⟩
      refine ta_nil ?_
      refine ⟨(q, (l, r, st), n, ws), rfl, ⟨hs, n6, by show ws.length ≤ 20; omega⟩, .inr rfl, fun _ _ z => z, ?_⟩
      rintro d x1 ⟨e1, e2, ws', hor, hp1, ok1, rfl⟩
      refine ⟨e1, e2, rfl, ?_⟩
      dsimp only at hor hp1 ok1
      have hl1 : ws'.length ≤ j + 1 := by
        rcases hor with rfl | ⟨wd, rfl⟩
        · omega
        · rw [List.length_append, List.length_singleton]; omega
      have hsc := stn hp1 ok1 (by omega)
      have o1 := dOk_lawS (l := l) (r := r) (st := st) (n := n) ok1.w3 5
      have o2 := dOk_lawS (l := l) (r := r) (st := st) (n := n) hW 5
      show Tss _ [_, _, _, _, .rd x1, _, _, _, _, .val (.bl true), .val (lawS l r st n ws'), _] _ _
      refine s_if ?_; refine tt_not ?_; refine tt_val ?_; refine tk_v 9 rfl ?_
      refine s_end ?_
      refine s_set 5 (Tk.mono (k := fun d => d = .lst (pre (lawS l r st n) ws')) ?_ fun d e => ?_) sc_law.nd
      · refine tk_bin d_add ?_; refine tk_v 5 rfl ?_; refine tk_bin d_mul ?_; refine tk_lst ?_; refine ta_cons ?_; refine tk_v 10 rfl ?_
        refine ta_nil ?_; refine ⟨lenOk (Nat.le_of_ble_eq_true rfl), ?_⟩; refine tk_int m4 ?_; refine tk_cmp (d_ne hu) ?_; refine tk_v 10 rfl ?_; refine tk_ix ?_
        refine tk_v 5 rfl ?_; refine tk_neg ?_; refine tk_i ?_
        refine ⟨lawS l r st n ws, by rw [ez0]; exact atI_last, ?_⟩
        refine ⟨o1, o2, ?_⟩
        rcases hor with rfl | ⟨wd, rfl⟩
        · rw [deq_self o1]
          refine ⟨by decide, by decide, lenOk (by show 1 * 0 ≤ 1000; decide), ?_⟩
          refine ⟨Nat.le_trans (show (pre (lawS l r st n) ws').length + 0 ≤ 1000 by rw [pre_len]; omega) (lenOk (Nat.le_refl _)), ?_⟩
          show D.lst (pre (lawS l r st n) ws' ++ []) = _
          rw [List.append_nil]
        · rw [deq_lawS (us := ws ++ [wd]) (vs := ws) (by rw [List.length_append, List.length_singleton]; omega)]
          refine ⟨by decide, by decide, lenOk (by show 1 * 1 ≤ 1000; decide), ?_⟩
          refine ⟨Nat.le_trans (show (pre (lawS l r st n) ws).length + 1 ≤ 1000 by rw [pre_len]; omega) (lenOk (Nat.le_refl _)), ?_⟩
          show D.lst (pre (lawS l r st n) ws ++ [lawS l r st n (ws ++ [wd])]) = _
          rw [pre_app]
      subst e
      refine s_end ?_
      refine s_if ?_; refine tt_not ?_; refine tt_val ?_; refine tk_fnG 4 FI hr rfl (ta_cons (tk_vr 4 rfl ?_)); refine ta_cons ?_; refine tk_v 2 rfl ?_
      refine ta_cons ?_; refine tk_v 3 rfl ?_; refine ta_cons ?_; refine tk_ix ?_; refine tk_v 5 rfl ?_; refine tk_neg ?_
      refine tk_i ?_
      obtain ⟨zs, ez⟩ := pre_last (f := lawS l r st n) (ws := ws')
      refine ⟨lawS l r st n (ws'), by rw [ez]; exact atI_last, ?_⟩
      refine ta_nil ?_
      refine ⟨((l, r, st), n, ws'), rfl, ⟨hsc, n6⟩, .inl rfl, fun _ _ z => z, ?_⟩
      rintro d x' ⟨e1, rfl⟩
      refine ⟨e1, s_end ?_⟩
      clear e1
      refine s_if ?_; refine tt_cmp (d_eq hu) ?_; refine tk_v 8 rfl ?_; refine tk_i ?_; refine ⟨rfl, rfl, ?_⟩
      rw [deq_int]
      refine cB_dec (fun h6 => ?_) (fun h6 => ?_)
      · refine s_parNV 6 7 (tkn_meth0 4 FC RC.cls hr rfl hp1.C (by rw [hp1.fs]; decide +kernel) ⟨((l, r, st), n, ws'), rfl, hsc, .inl rfl, fun x2 hp2' => ?_⟩) rfl sc_law.nd (hl := (by show 6 < 12; decide))
        refine tk_ix ?_; refine tk_v 5 rfl ?_; refine tk_neg ?_; refine tk_i ?_
        refine ⟨lawS l r st n (ws'), by rw [ez]; exact atI_last, ?_⟩
        exact s_end (s_turn ⟨ws', _, ws', x2, _, _, _, _, rfl, hp1, ok1, hl1, hp2', ok1, by have := hl1; omega⟩)
      · exact s_end (s_turn ⟨ws', _, kws, tw, _, _, _, _, rfl, hp1, ok1, hl1, hp2, ok2, hl2⟩)
  · clear hp hp2 x tw
    rintro ρ' ⟨ws, x, kws, tw, t8, t9, t10, t11, rfl, hp, ok, hl, hp2, ok2, hl2⟩
    have hl : ws.length ≤ 14 := hl
    have hs := stn hp ok (by omega)
    have hs2 := stn hp2 ok2 (by omega)
    refine s_if ?_; refine Tw.tt (tw_or ?_); refine tt_not ?_; refine tt_val ?_; refine tk_fnG 6 FI hr rfl (ta_cons (tk_vr 6 rfl ?_)); refine ta_cons ?_
    refine tk_v 2 rfl ?_; refine ta_cons ?_; refine tk_v 3 rfl ?_; refine ta_cons ?_; refine tk_v 7 rfl ?_; refine ta_nil ?_
    refine ⟨((l, r, st), n, kws), rfl, ⟨hs2, n6⟩, .inl rfl, fun _ _ z => z, ?_⟩
    rintro d x' ⟨e1, rfl⟩
    refine ⟨e1, ?_⟩
    clear e1
    refine tw_or1 ?_; refine tt_not ?_; refine tt_val ?_; refine tk_fnG 4 FI hr rfl (ta_cons (tk_vr 4 rfl ?_)); refine ta_cons ?_; refine tk_v 2 rfl ?_
    refine ta_cons ?_; refine tk_v 3 rfl ?_; refine ta_cons ?_; refine tk_ix ?_; refine tk_v 5 rfl ?_; refine tk_neg ?_
    refine tk_i ?_
    obtain ⟨zs, ez⟩ := pre_last (f := lawS l r st n) (ws := ws)
    refine ⟨lawS l r st n ws, by rw [ez]; exact atI_last, ?_⟩
    refine ta_nil ?_
    refine ⟨((l, r, st), n, ws), rfl, ⟨hs, n6⟩, .inl rfl, fun _ _ z => z, ?_⟩
    rintro d x' ⟨e1, rfl⟩
    refine ⟨e1, s_end ?_⟩
    clear e1
    refine s_set 11 ?_ sc_law.nd; refine tk_ix ?_; refine @TkS.h _ _ _ _ ?_; refine tk_lit 9 rfl ?_; refine tk_taken F1 hr 1 rfl rfl ?_; refine tk_i ?_; refine ⟨_, rfl, by decide, by decide, fun v' h3 h4 => ?_⟩
    obtain ⟨bad, hat, hmem⟩ := atI_some (xs := [D.int 0, .int 501, .non, .bl true, .str "3"]) h3 h4
    refine ⟨bad, hat, ?_⟩
    have hb : Typed bad ∧ within bad 1 500 = false ∧ dOk 7 bad = true := by
      simp only [List.mem_cons, List.not_mem_nil, or_false] at hmem
      rcases hmem with rfl | rfl | rfl | rfl | rfl
      · exact ⟨⟨_, rfl⟩, rfl, rfl⟩
      · exact ⟨⟨_, rfl⟩, rfl, rfl⟩
      · exact ⟨⟨_, rfl⟩, rfl, rfl⟩
      · exact ⟨⟨_, rfl⟩, rfl, rfl⟩
      · exact ⟨⟨_, rfl⟩, rfl, by decide +kernel⟩
    obtain ⟨tb, wb, ob⟩ := hb
    have ol : dOk 8 (.lst [bad]) = true := by
      rw [dOk, List.all_cons, List.all_nil, ob]
      rfl
    refine s_ret ?_; refine tk_cmp (d_eq hu) ?_; refine tk_knP FB hr ?_; refine ta_cons ?_; refine tk_knP F4 hr ?_; refine ta_cons ?_
    refine tk_v 2 rfl ?_; refine ta_nil ?_; refine ⟨(l, r, st), rfl, hg, ?_⟩; refine ta_cons ?_; refine tk_v 11 rfl ?_; refine ta_nil ?_
    refine ⟨((l, r, st), bad), rfl, ⟨hg, tb, wb⟩, ?_⟩
    refine tk_lst ?_; refine ta_cons ?_; refine tk_v 11 rfl ?_; refine ta_nil ?_; refine ⟨lenOk (Nat.le_of_ble_eq_true rfl), ?_⟩; refine ⟨ol, ol, ?_⟩
    rw [deq_self ol]
    rfl
end
/-! ## what the top has written, joined -/
theorem all_mk {l : PySem.W.OpenLaw} {w : World} {K : PySem.W.Frag} {h : Heap} {mg : Str → Option Value} {fa fL f1 f2 f3 f4 S f5 f6 f7 f8 CE f9 C0 f10 CR f11 CN f12 p_ONE f13 f14 f15 f16 f17 CB f18 CD f19 f20 f21 f22 f23 f24 f25 P25 f26 f27 P27 f28 P28 f29 P29 f30 P30 f31 P31 f32 P32 f33 f34 f35 : Addr} (X : K.In h) (G : h.Ns mainGlobals mg) (hfa : mg "law" = some (.ref fa))
    {odL anL : Option Addr} {slL : Array (Option Value)} {ocL kVL dcL pmL cdL ctL : Value} {od1 an1 : Option Addr} {sl1 : Array (Option Value)} {oc1 kV1 dc1 pm1 cd1 ct1 : Value} {od2 an2 : Option Addr} {sl2 : Array (Option Value)} {oc2 kV2 dc2 pm2 cd2 ct2 : Value} {od3 an3 : Option Addr} {sl3 : Array (Option Value)} {oc3 kV3 dc3 pm3 cd3 ct3 : Value} {od4 an4 : Option Addr} {sl4 : Array (Option Value)} {oc4 kV4 dc4 pm4 cd4 ct4 : Value} {od5 an5 : Option Addr} {sl5 : Array (Option Value)} {oc5 kV5 dc5 pm5 cd5 ct5 : Value} {od6 an6 : Option Addr} {sl6 : Array (Option Value)} {oc6 kV6 dc6 pm6 cd6 ct6 : Value} {od7 an7 : Option Addr} {sl7 : Array (Option Value)} {oc7 kV7 dc7 pm7 cd7 ct7 : Value} {od8 an8 : Option Addr} {sl8 : Array (Option Value)} {oc8 kV8 dc8 pm8 cd8 ct8 : Value} {nm_InvalidShare q_InvalidShare : Str} {N_InvalidShare : Addr} {bs_InvalidShare bm_InvalidShare : List Value} {sn_InvalidShare : List Str} {sub_InvalidShare : List Value} {ab_InvalidShare : Bool} {col_InvalidShare : Option Bool} {dd_InvalidShare : Option Addr} {k0_InvalidShare k1_InvalidShare k2_InvalidShare k3_InvalidShare k5_InvalidShare : Option Value} {od9 an9 : Option Addr} {sl9 : Array (Option Value)} {oc9 kV9 dc9 pm9 cd9 ct9 : Value} {t_MOST_SHARE : _} {od10 an10 : Option Addr} {sl10 : Array (Option Value)} {oc10 kV10 dc10 pm10 cd10 ct10 : Value} {od11 an11 : Option Addr} {sl11 : Array (Option Value)} {oc11 kV11 dc11 pm11 cd11 ct11 : Value} {nm_BadNumber q_BadNumber : Str} {N_BadNumber : Addr} {bs_BadNumber bm_BadNumber : List Value} {sn_BadNumber : List Str} {sub_BadNumber : List Value} {ab_BadNumber : Bool} {col_BadNumber : Option Bool} {dd_BadNumber : Option Addr} {k0_BadNumber k1_BadNumber k2_BadNumber k3_BadNumber k5_BadNumber : Option Value} {od12 an12 : Option Addr} {sl12 : Array (Option Value)} {oc12 kV12 dc12 pm12 cd12 ct12 : Value} {d_ONE : Option Addr} {n_ONE : Nat} {t1_ONE t2_ONE : _} {s_ONE : _} {t_MOST_SEATS : _} {od13 an13 : Option Addr} {sl13 : Array (Option Value)} {oc13 kV13 dc13 pm13 cd13 ct13 : Value} {od14 an14 : Option Addr} {sl14 : Array (Option Value)} {oc14 kV14 dc14 pm14 cd14 ct14 : Value} {od15 an15 : Option Addr} {sl15 : Array (Option Value)} {oc15 kV15 dc15 pm15 cd15 ct15 : Value} {od16 an16 : Option Addr} {sl16 : Array (Option Value)} {oc16 kV16 dc16 pm16 cd16 ct16 : Value} {od17 an17 : Option Addr} {sl17 : Array (Option Value)} {oc17 kV17 dc17 pm17 cd17 ct17 : Value} {nm_BadThrow q_BadThrow : Str} {N_BadThrow : Addr} {bs_BadThrow bm_BadThrow : List Value} {sn_BadThrow : List Str} {sub_BadThrow : List Value} {ab_BadThrow : Bool} {col_BadThrow : Option Bool} {dd_BadThrow : Option Addr} {k0_BadThrow k1_BadThrow k2_BadThrow k3_BadThrow k5_BadThrow : Option Value} {od18 an18 : Option Addr} {sl18 : Array (Option Value)} {oc18 kV18 dc18 pm18 cd18 ct18 : Value} {nm_Ended q_Ended : Str} {N_Ended : Addr} {bs_Ended bm_Ended : List Value} {sn_Ended : List Str} {sub_Ended : List Value} {ab_Ended : Bool} {col_Ended : Option Bool} {dd_Ended : Option Addr} {k0_Ended k1_Ended k2_Ended k3_Ended k5_Ended : Option Value} {od19 an19 : Option Addr} {sl19 : Array (Option Value)} {oc19 kV19 dc19 pm19 cd19 ct19 : Value} {od20 an20 : Option Addr} {sl20 : Array (Option Value)} {oc20 kV20 dc20 pm20 cd20 ct20 : Value} {od21 an21 : Option Addr} {sl21 : Array (Option Value)} {oc21 kV21 dc21 pm21 cd21 ct21 : Value} {od22 an22 : Option Addr} {sl22 : Array (Option Value)} {oc22 kV22 dc22 pm22 cd22 ct22 : Value} {od23 an23 : Option Addr} {sl23 : Array (Option Value)} {oc23 kV23 dc23 pm23 cd23 ct23 : Value} {od24 an24 : Option Addr} {sl24 : Array (Option Value)} {oc24 kV24 dc24 pm24 cd24 ct24 : Value} {rs25 : List Value} {od25 an25 : Option Addr} {sl25 : Array (Option Value)} {oc25 kV25 dc25 pm25 cd25 ct25 : Value} {od26 an26 : Option Addr} {sl26 : Array (Option Value)} {oc26 kV26 dc26 pm26 cd26 ct26 : Value} {rs27 : List Value} {od27 an27 : Option Addr} {sl27 : Array (Option Value)} {oc27 kV27 dc27 pm27 cd27 ct27 : Value} {rs28 : List Value} {od28 an28 : Option Addr} {sl28 : Array (Option Value)} {oc28 kV28 dc28 pm28 cd28 ct28 : Value} {rs29 : List Value} {od29 an29 : Option Addr} {sl29 : Array (Option Value)} {oc29 kV29 dc29 pm29 cd29 ct29 : Value} {rs30 : List Value} {od30 an30 : Option Addr} {sl30 : Array (Option Value)} {oc30 kV30 dc30 pm30 cd30 ct30 : Value} {rs31 : List Value} {od31 an31 : Option Addr} {sl31 : Array (Option Value)} {oc31 kV31 dc31 pm31 cd31 ct31 : Value} {rs32 : List Value} {od32 an32 : Option Addr} {sl32 : Array (Option Value)} {oc32 kV32 dc32 pm32 cd32 ct32 : Value} {od33 an33 : Option Addr} {sl33 : Array (Option Value)} {oc33 kV33 dc33 pm33 cd33 ct33 : Value} {od34 an34 : Option Addr} {sl34 : Array (Option Value)} {oc34 kV34 dc34 pm34 cd34 ct34 : Value} {od35 an35 : Option Addr} {sl35 : Array (Option Value)} {oc35 kV35 dc35 pm35 cd35 ct35 : Value}
    (aL : PySem.W.nsIn K mainGlobals "law" = some (some (.ref fL)))
    (a1 : PySem.W.nsIn K mainGlobals "_law_taken" = some (some (.ref f1)))
    (a2 : PySem.W.nsIn K mainGlobals "_law_drawn" = some (some (.ref f2)))
    (a3 : PySem.W.nsIn K mainGlobals "_law_made" = some (some (.ref f3)))
    (nShares : PySem.W.nsIn K mainGlobals "Shares" = some (some (.ref S)))
    (a5 : PySem.W.nsIn K mainGlobals "is_within" = some (some (.ref f5)))
    (a6 : PySem.W.nsIn K mainGlobals "is_whole" = some (some (.ref f6)))
    (a7 : PySem.W.nsIn K mainGlobals "fraction" = some (some (.ref f7)))
    (a8 : PySem.W.nsIn K mainGlobals "common" = some (some (.ref f8)))
    (nInvalidShare : PySem.W.nsIn K mainGlobals "InvalidShare" = some (some (.ref CE)))
    (aPe : PySem.W.nsIn K mainGlobals "ParcelError" = some (some (.ref C0)))
    (nRound : PySem.W.nsIn K mainGlobals "Round" = some (some (.ref CR)))
    (a11 : PySem.W.nsIn K mainGlobals "need_number" = some (some (.ref f11)))
    (nBadNumber : PySem.W.nsIn K mainGlobals "BadNumber" = some (some (.ref CN)))
    (o_ONE : PySem.W.nsIn K mainGlobals "ONE" = some (some (.ref p_ONE)))
    (a15 : PySem.W.nsIn K mainGlobals "_law_moved" = some (some (.ref f15)))
    (a16 : PySem.W.nsIn K mainGlobals "_law_told" = some (some (.ref f16)))
    (nBadThrow : PySem.W.nsIn K mainGlobals "BadThrow" = some (some (.ref CB)))
    (nEnded : PySem.W.nsIn K mainGlobals "Ended" = some (some (.ref CD)))
    (a20 : PySem.W.nsIn K mainGlobals "product" = some (some (.ref f20)))
    (a21 : PySem.W.nsIn K mainGlobals "_law_thrown" = some (some (.ref f21)))
    (a22 : PySem.W.nsIn K mainGlobals "_law_frac" = some (some (.ref f22)))
    (a23 : PySem.W.nsIn K mainGlobals "_law_times" = some (some (.ref f23)))
    (a24 : PySem.W.nsIn K mainGlobals "_law_is" = some (some (.ref f24)))
    (a26 : PySem.W.nsIn K mainGlobals "on_table" = some (some (.ref f26)))
    (a35 : PySem.W.nsIn K mainGlobals "_law_begun" = some (some (.ref f35)))
    (a4 : PySem.W.findIn K (.ref S) "__init__" = some (some (.ref f4)))
    (a9 : PySem.W.findIn K (.ref CE) "__init__" = some (some (.ref f9)))
    (a10 : PySem.W.findIn K (.ref CR) "__init__" = some (some (.ref f10)))
    (a12 : PySem.W.findIn K (.ref CN) "__init__" = some (some (.ref f12)))
    (a13 : PySem.W.findIn K (.ref CR) "copy" = some (some (.ref f13)))
    (a14 : PySem.W.findIn K (.ref CR) "undo" = some (some (.ref f14)))
    (a17 : PySem.W.findIn K (.ref CR) "throw" = some (some (.ref f17)))
    (a18 : PySem.W.findIn K (.ref CB) "__init__" = some (some (.ref f18)))
    (a19 : PySem.W.findIn K (.ref CD) "__init__" = some (some (.ref f19)))
    (pf25 : PySem.W.findIn K (.ref CR) "holder" = some (some (.ref P25)))
    (pf27 : PySem.W.findIn K (.ref CR) "had" = some (some (.ref P27)))
    (pf28 : PySem.W.findIn K (.ref CR) "chance" = some (some (.ref P28)))
    (pf29 : PySem.W.findIn K (.ref CR) "log" = some (some (.ref P29)))
    (pf30 : PySem.W.findIn K (.ref CR) "last" = some (some (.ref P30)))
    (pf31 : PySem.W.findIn K (.ref CR) "number" = some (some (.ref P31)))
    (pf32 : PySem.W.findIn K (.ref CR) "shares" = some (some (.ref P32)))
    (a33 : PySem.W.findIn K (.ref CR) "__len__" = some (some (.ref f33)))
    (a34 : PySem.W.findIn K (.ref S) "__eq__" = some (some (.ref f34)))
    (a25 : PySem.W.recIn K P25 "property" = some (.ref f25 :: rs25))
    (a27 : PySem.W.recIn K P27 "property" = some (.ref f27 :: rs27))
    (a28 : PySem.W.recIn K P28 "property" = some (.ref f28 :: rs28))
    (a29 : PySem.W.recIn K P29 "property" = some (.ref f29 :: rs29))
    (a30 : PySem.W.recIn K P30 "property" = some (.ref f30 :: rs30))
    (a31 : PySem.W.recIn K P31 "property" = some (.ref f31 :: rs31))
    (a32 : PySem.W.recIn K P32 "property" = some (.ref f32 :: rs32))
    (lL : K.lookup fL = some ⟨ocL, odL, .func (PySem.W.fnOf "law" "law" (defArgs s_law) (defBody s_law) (defScope s_law) .none kVL dcL pmL anL cdL ctL), slL⟩)
    (l1 : K.lookup f1 = some ⟨oc1, od1, .func (PySem.W.fnOf "_law_taken" "_law_taken" (defArgs s__law_taken) (defBody s__law_taken) (defScope s__law_taken) .none kV1 dc1 pm1 an1 cd1 ct1), sl1⟩)
    (l2 : K.lookup f2 = some ⟨oc2, od2, .func (PySem.W.fnOf "_law_drawn" "_law_drawn" (defArgs s__law_drawn) (defBody s__law_drawn) (defScope s__law_drawn) .none kV2 dc2 pm2 an2 cd2 ct2), sl2⟩)
    (l3 : K.lookup f3 = some ⟨oc3, od3, .func (PySem.W.fnOf "_law_made" "_law_made" (defArgs s__law_made) (defBody s__law_made) (defScope s__law_made) .none kV3 dc3 pm3 an3 cd3 ct3), sl3⟩)
    (l4 : K.lookup f4 = some ⟨oc4, od4, .func (PySem.W.fnOf "__init__" "Shares.__init__" (defArgs s_Shares_init) (defBody s_Shares_init) (defScope s_Shares_init) .none kV4 dc4 pm4 an4 cd4 ct4), sl4⟩)
    (l5 : K.lookup f5 = some ⟨oc5, od5, .func (PySem.W.fnOf "is_within" "is_within" (defArgs s_is_within) (defBody s_is_within) (defScope s_is_within) .none kV5 dc5 pm5 an5 cd5 ct5), sl5⟩)
    (l6 : K.lookup f6 = some ⟨oc6, od6, .func (PySem.W.fnOf "is_whole" "is_whole" (defArgs s_is_whole) (defBody s_is_whole) (defScope s_is_whole) .none kV6 dc6 pm6 an6 cd6 ct6), sl6⟩)
    (l7 : K.lookup f7 = some ⟨oc7, od7, .func (PySem.W.fnOf "fraction" "fraction" (defArgs s_fraction) (defBody s_fraction) (defScope s_fraction) .none kV7 dc7 pm7 an7 cd7 ct7), sl7⟩)
    (l8 : K.lookup f8 = some ⟨oc8, od8, .func (PySem.W.fnOf "common" "common" (defArgs s_common) (defBody s_common) (defScope s_common) .none kV8 dc8 pm8 an8 cd8 ct8), sl8⟩)
    (eInvalidShare : K.lookup CE = some (excClassObj nm_InvalidShare q_InvalidShare CE N_InvalidShare bs_InvalidShare bm_InvalidShare true sn_InvalidShare sub_InvalidShare ab_InvalidShare col_InvalidShare dd_InvalidShare k0_InvalidShare k1_InvalidShare k2_InvalidShare k3_InvalidShare k5_InvalidShare "ValueError.__new__"))
    (l9 : K.lookup f9 = some ⟨oc9, od9, .func (PySem.W.fnOf "__init__" "InvalidShare.__init__" (defArgs s_InvalidShare_init) (defBody s_InvalidShare_init) (defScope s_InvalidShare_init) .none kV9 dc9 pm9 an9 cd9 ct9), sl9⟩)
    (l10 : K.lookup f10 = some ⟨oc10, od10, .func (PySem.W.fnOf "__init__" "Round.__init__" (defArgs s_Round_init) (defBody s_Round_init) (defScope s_Round_init) .none kV10 dc10 pm10 an10 cd10 ct10), sl10⟩)
    (l11 : K.lookup f11 = some ⟨oc11, od11, .func (PySem.W.fnOf "need_number" "need_number" (defArgs s_need_number) (defBody s_need_number) (defScope s_need_number) .none kV11 dc11 pm11 an11 cd11 ct11), sl11⟩)
    (eBadNumber : K.lookup CN = some (excClassObj nm_BadNumber q_BadNumber CN N_BadNumber bs_BadNumber bm_BadNumber true sn_BadNumber sub_BadNumber ab_BadNumber col_BadNumber dd_BadNumber k0_BadNumber k1_BadNumber k2_BadNumber k3_BadNumber k5_BadNumber "ValueError.__new__"))
    (l12 : K.lookup f12 = some ⟨oc12, od12, .func (PySem.W.fnOf "__init__" "BadNumber.__init__" (defArgs s_BadNumber_init) (defBody s_BadNumber_init) (defScope s_BadNumber_init) .none kV12 dc12 pm12 an12 cd12 ct12), sl12⟩)
    (ol_ONE : K.lookup p_ONE = some ⟨.type "tuple", d_ONE, .seq #[.int 1 t1_ONE, .int 1 t2_ONE] n_ONE, s_ONE⟩)
    (l13 : K.lookup f13 = some ⟨oc13, od13, .func (PySem.W.fnOf "copy" "Round.copy" (defArgs s_Round_copy) (defBody s_Round_copy) (defScope s_Round_copy) .none kV13 dc13 pm13 an13 cd13 ct13), sl13⟩)
    (l14 : K.lookup f14 = some ⟨oc14, od14, .func (PySem.W.fnOf "undo" "Round.undo" (defArgs s_Round_undo) (defBody s_Round_undo) (defScope s_Round_undo) .none kV14 dc14 pm14 an14 cd14 ct14), sl14⟩)
    (l15 : K.lookup f15 = some ⟨oc15, od15, .func (PySem.W.fnOf "_law_moved" "_law_moved" (defArgs s__law_moved) (defBody s__law_moved) (defScope s__law_moved) .none kV15 dc15 pm15 an15 cd15 ct15), sl15⟩)
    (l16 : K.lookup f16 = some ⟨oc16, od16, .func (PySem.W.fnOf "_law_told" "_law_told" (defArgs s__law_told) (defBody s__law_told) (defScope s__law_told) .none kV16 dc16 pm16 an16 cd16 ct16), sl16⟩)
    (l17 : K.lookup f17 = some ⟨oc17, od17, .func (PySem.W.fnOf "throw" "Round.throw" (defArgs s_Round_throw) (defBody s_Round_throw) (defScope s_Round_throw) .none kV17 dc17 pm17 an17 cd17 ct17), sl17⟩)
    (eBadThrow : K.lookup CB = some (excClassObj nm_BadThrow q_BadThrow CB N_BadThrow bs_BadThrow bm_BadThrow true sn_BadThrow sub_BadThrow ab_BadThrow col_BadThrow dd_BadThrow k0_BadThrow k1_BadThrow k2_BadThrow k3_BadThrow k5_BadThrow "ValueError.__new__"))
    (l18 : K.lookup f18 = some ⟨oc18, od18, .func (PySem.W.fnOf "__init__" "BadThrow.__init__" (defArgs s_BadThrow_init) (defBody s_BadThrow_init) (defScope s_BadThrow_init) .none kV18 dc18 pm18 an18 cd18 ct18), sl18⟩)
    (eEnded : K.lookup CD = some (excClassObj nm_Ended q_Ended CD N_Ended bs_Ended bm_Ended true sn_Ended sub_Ended ab_Ended col_Ended dd_Ended k0_Ended k1_Ended k2_Ended k3_Ended k5_Ended "ValueError.__new__"))
    (l19 : K.lookup f19 = some ⟨oc19, od19, .func (PySem.W.fnOf "__init__" "Ended.__init__" (defArgs s_Ended_init) (defBody s_Ended_init) (defScope s_Ended_init) .none kV19 dc19 pm19 an19 cd19 ct19), sl19⟩)
    (l20 : K.lookup f20 = some ⟨oc20, od20, .func (PySem.W.fnOf "product" "product" (defArgs s_product) (defBody s_product) (defScope s_product) .none kV20 dc20 pm20 an20 cd20 ct20), sl20⟩)
    (l21 : K.lookup f21 = some ⟨oc21, od21, .func (PySem.W.fnOf "_law_thrown" "_law_thrown" (defArgs s__law_thrown) (defBody s__law_thrown) (defScope s__law_thrown) .none kV21 dc21 pm21 an21 cd21 ct21), sl21⟩)
    (l22 : K.lookup f22 = some ⟨oc22, od22, .func (PySem.W.fnOf "_law_frac" "_law_frac" (defArgs s__law_frac) (defBody s__law_frac) (defScope s__law_frac) .none kV22 dc22 pm22 an22 cd22 ct22), sl22⟩)
    (l23 : K.lookup f23 = some ⟨oc23, od23, .func (PySem.W.fnOf "_law_times" "_law_times" (defArgs s__law_times) (defBody s__law_times) (defScope s__law_times) .none kV23 dc23 pm23 an23 cd23 ct23), sl23⟩)
    (l24 : K.lookup f24 = some ⟨oc24, od24, .func (PySem.W.fnOf "_law_is" "_law_is" (defArgs s__law_is) (defBody s__law_is) (defScope s__law_is) .none kV24 dc24 pm24 an24 cd24 ct24), sl24⟩)
    (l25 : K.lookup f25 = some ⟨oc25, od25, .func (PySem.W.fnOf "holder" "Round.holder" (defArgs s_Round_holder) (defBody s_Round_holder) (defScope s_Round_holder) .none kV25 dc25 pm25 an25 cd25 ct25), sl25⟩)
    (l26 : K.lookup f26 = some ⟨oc26, od26, .func (PySem.W.fnOf "on_table" "on_table" (defArgs s_on_table) (defBody s_on_table) (defScope s_on_table) .none kV26 dc26 pm26 an26 cd26 ct26), sl26⟩)
    (l27 : K.lookup f27 = some ⟨oc27, od27, .func (PySem.W.fnOf "had" "Round.had" (defArgs s_Round_had) (defBody s_Round_had) (defScope s_Round_had) .none kV27 dc27 pm27 an27 cd27 ct27), sl27⟩)
    (l28 : K.lookup f28 = some ⟨oc28, od28, .func (PySem.W.fnOf "chance" "Round.chance" (defArgs s_Round_chance) (defBody s_Round_chance) (defScope s_Round_chance) .none kV28 dc28 pm28 an28 cd28 ct28), sl28⟩)
    (l29 : K.lookup f29 = some ⟨oc29, od29, .func (PySem.W.fnOf "log" "Round.log" (defArgs s_Round_log) (defBody s_Round_log) (defScope s_Round_log) .none kV29 dc29 pm29 an29 cd29 ct29), sl29⟩)
    (l30 : K.lookup f30 = some ⟨oc30, od30, .func (PySem.W.fnOf "last" "Round.last" (defArgs s_Round_last) (defBody s_Round_last) (defScope s_Round_last) .none kV30 dc30 pm30 an30 cd30 ct30), sl30⟩)
    (l31 : K.lookup f31 = some ⟨oc31, od31, .func (PySem.W.fnOf "number" "Round.number" (defArgs s_Round_number) (defBody s_Round_number) (defScope s_Round_number) .none kV31 dc31 pm31 an31 cd31 ct31), sl31⟩)
    (l32 : K.lookup f32 = some ⟨oc32, od32, .func (PySem.W.fnOf "shares" "Round.shares" (defArgs s_Round_shares) (defBody s_Round_shares) (defScope s_Round_shares) .none kV32 dc32 pm32 an32 cd32 ct32), sl32⟩)
    (l33 : K.lookup f33 = some ⟨oc33, od33, .func (PySem.W.fnOf "__len__" "Round.__len__" (defArgs s_Round_len) (defBody s_Round_len) (defScope s_Round_len) .none kV33 dc33 pm33 an33 cd33 ct33), sl33⟩)
    (l34 : K.lookup f34 = some ⟨oc34, od34, .func (PySem.W.fnOf "__eq__" "Shares.__eq__" (defArgs s_Shares_eq) (defBody s_Shares_eq) (defScope s_Shares_eq) .none kV34 dc34 pm34 an34 cd34 ct34), sl34⟩)
    (l35 : K.lookup f35 = some ⟨oc35, od35, .func (PySem.W.fnOf "_law_begun" "_law_begun" (defArgs s__law_begun) (defBody s__law_begun) (defScope s__law_begun) .none kV35 dc35 pm35 an35 cd35 ct35), sl35⟩)
    (cL : PySem.W.codeIn K cdL "law" = true)
    (kL : PySem.W.keepIn K (.ref fL) = true)
    (c1 : PySem.W.codeIn K cd1 "_law_taken" = true)
    (k1 : PySem.W.keepIn K (.ref f1) = true)
    (z_int : PySem.W.nsIn K mainGlobals "int" = some none)
    (z_len : PySem.W.nsIn K mainGlobals "len" = some none)
    (c2 : PySem.W.codeIn K cd2 "_law_drawn" = true)
    (k2 : PySem.W.keepIn K (.ref f2) = true)
    (c3 : PySem.W.codeIn K cd3 "_law_made" = true)
    (k3 : PySem.W.keepIn K (.ref f3) = true)
    (c4 : PySem.W.codeIn K cd4 "Shares.__init__" = true)
    (k4 : PySem.W.keepIn K (.ref f4) = true)
    (iShares : PySem.W.isFn K (.ref f4) = true)
    (mkShares : PySem.W.makesIn K S = true)
    (kcShares : PySem.W.keepIn K (.ref S) = true)
    (pgS : PySem.W.plainGet K S Str.empty = true)
    (hdS : PySem.W.hasDictIn K S = true)
    (poS : PySem.W.plainOver K S = true)
    (saS : PySem.W.findIn K (.ref S) "__setattr__" = some (some (.builtin "object.__setattr__")))
    (fS_lefts : PySem.W.findIn K (.ref S) "lefts" = some none)
    (fS_rights : PySem.W.findIn K (.ref S) "rights" = some none)
    (fS_stays : PySem.W.findIn K (.ref S) "stays" = some none)
    (fS_whole : PySem.W.findIn K (.ref S) "whole" = some none)
    (fS_ratio : PySem.W.findIn K (.ref S) "ratio" = some none)
    (c5 : PySem.W.codeIn K cd5 "is_within" = true)
    (k5 : PySem.W.keepIn K (.ref f5) = true)
    (c6 : PySem.W.codeIn K cd6 "is_whole" = true)
    (k6 : PySem.W.keepIn K (.ref f6) = true)
    (z_isinstance : PySem.W.nsIn K mainGlobals "isinstance" = some none)
    (z_bool : PySem.W.nsIn K mainGlobals "bool" = some none)
    (c7 : PySem.W.codeIn K cd7 "fraction" = true)
    (k7 : PySem.W.keepIn K (.ref f7) = true)
    (c8 : PySem.W.codeIn K cd8 "common" = true)
    (k8 : PySem.W.keepIn K (.ref f8) = true)
    (z_abs : PySem.W.nsIn K mainGlobals "abs" = some none)
    (rInvalidShare : PySem.HandSPX.refsVE bm_InvalidShare = true)
    (sInvalidShare : PySem.W.findIn K (.ref CE) "__setattr__" = some (some (.builtin "object.__setattr__")))
    (bInvalidShare : PySem.W.subIn K (.ref CE) (.type "BaseException") = some true)
    (tInvalidShare : PySem.W.typeIn K (.ref CE) = some (.type "type"))
    (kInvalidShare : PySem.W.keepIn K (.ref CE) = true)
    (c9 : PySem.W.codeIn K cd9 "InvalidShare.__init__" = true)
    (k9 : PySem.W.keepIn K (.ref f9) = true)
    (tfInvalidShare : PySem.W.typeIn K (.ref f9) = some (.type "function"))
    (fInvalidShare_name : PySem.W.findIn K (.ref CE) "name" = some none)
    (sPe : PySem.W.specialIn K (.ref C0) "__getattribute__" = some (some (.builtin "type.__getattribute__")))
    (rPe : PySem.W.readsIn K C0 (.type "type") = true)
    (fPe : PySem.W.findCls K (.ref C0) (.type "type") "__init__" = some (.val (.builtin "ValueError.__init__")))
    (o_MOST_SHARE : PySem.W.nsIn K mainGlobals "MOST_SHARE" = some (some (.int 9 t_MOST_SHARE)))
    (c10 : PySem.W.codeIn K cd10 "Round.__init__" = true)
    (k10 : PySem.W.keepIn K (.ref f10) = true)
    (iRound : PySem.W.isFn K (.ref f10) = true)
    (mkRound : PySem.W.makesIn K CR = true)
    (kcRound : PySem.W.keepIn K (.ref CR) = true)
    (pgR : PySem.W.plainGet K CR Str.empty = true)
    (hdR : PySem.W.hasDictIn K CR = true)
    (poR : PySem.W.plainOver K CR = true)
    (saR : PySem.W.findIn K (.ref CR) "__setattr__" = some (some (.builtin "object.__setattr__")))
    (fR_source : PySem.W.findIn K (.ref CR) "source" = some none)
    (fR_size : PySem.W.findIn K (.ref CR) "size" = some none)
    (fR_states : PySem.W.findIn K (.ref CR) "states" = some none)
    (fR_words : PySem.W.findIn K (.ref CR) "words" = some none)
    (c11 : PySem.W.codeIn K cd11 "need_number" = true)
    (k11 : PySem.W.keepIn K (.ref f11) = true)
    (rBadNumber : PySem.HandSPX.refsVE bm_BadNumber = true)
    (sBadNumber : PySem.W.findIn K (.ref CN) "__setattr__" = some (some (.builtin "object.__setattr__")))
    (bBadNumber : PySem.W.subIn K (.ref CN) (.type "BaseException") = some true)
    (tBadNumber : PySem.W.typeIn K (.ref CN) = some (.type "type"))
    (kBadNumber : PySem.W.keepIn K (.ref CN) = true)
    (c12 : PySem.W.codeIn K cd12 "BadNumber.__init__" = true)
    (k12 : PySem.W.keepIn K (.ref f12) = true)
    (tfBadNumber : PySem.W.typeIn K (.ref f12) = some (.type "function"))
    (fBadNumber_n : PySem.W.findIn K (.ref CN) "n" = some none)
    (o_MOST_SEATS : PySem.W.nsIn K mainGlobals "MOST_SEATS" = some (some (.int 500 t_MOST_SEATS)))
    (c13 : PySem.W.codeIn K cd13 "Round.copy" = true)
    (k13 : PySem.W.keepIn K (.ref f13) = true)
    (i13 : PySem.W.isFn K (.ref f13) = true)
    (z_list : PySem.W.nsIn K mainGlobals "list" = some none)
    (c14 : PySem.W.codeIn K cd14 "Round.undo" = true)
    (k14 : PySem.W.keepIn K (.ref f14) = true)
    (i14 : PySem.W.isFn K (.ref f14) = true)
    (c15 : PySem.W.codeIn K cd15 "_law_moved" = true)
    (k15 : PySem.W.keepIn K (.ref f15) = true)
    (c16 : PySem.W.codeIn K cd16 "_law_told" = true)
    (k16 : PySem.W.keepIn K (.ref f16) = true)
    (c17 : PySem.W.codeIn K cd17 "Round.throw" = true)
    (k17 : PySem.W.keepIn K (.ref f17) = true)
    (i17 : PySem.W.isFn K (.ref f17) = true)
    (rBadThrow : PySem.HandSPX.refsVE bm_BadThrow = true)
    (sBadThrow : PySem.W.findIn K (.ref CB) "__setattr__" = some (some (.builtin "object.__setattr__")))
    (bBadThrow : PySem.W.subIn K (.ref CB) (.type "BaseException") = some true)
    (tBadThrow : PySem.W.typeIn K (.ref CB) = some (.type "type"))
    (kBadThrow : PySem.W.keepIn K (.ref CB) = true)
    (c18 : PySem.W.codeIn K cd18 "BadThrow.__init__" = true)
    (k18 : PySem.W.keepIn K (.ref f18) = true)
    (tfBadThrow : PySem.W.typeIn K (.ref f18) = some (.type "function"))
    (rEnded : PySem.HandSPX.refsVE bm_Ended = true)
    (sEnded : PySem.W.findIn K (.ref CD) "__setattr__" = some (some (.builtin "object.__setattr__")))
    (bEnded : PySem.W.subIn K (.ref CD) (.type "BaseException") = some true)
    (tEnded : PySem.W.typeIn K (.ref CD) = some (.type "type"))
    (kEnded : PySem.W.keepIn K (.ref CD) = true)
    (c19 : PySem.W.codeIn K cd19 "Ended.__init__" = true)
    (k19 : PySem.W.keepIn K (.ref f19) = true)
    (tfEnded : PySem.W.typeIn K (.ref f19) = some (.type "function"))
    (c20 : PySem.W.codeIn K cd20 "product" = true)
    (k20 : PySem.W.keepIn K (.ref f20) = true)
    (z_str : PySem.W.nsIn K mainGlobals "str" = some none)
    (z_min : PySem.W.nsIn K mainGlobals "min" = some none)
    (z_max : PySem.W.nsIn K mainGlobals "max" = some none)
    (icBadThrow : PySem.W.isClsIn K CB = true)
    (su_BadThrow_BadThrow : PySem.W.subIn K (.ref CB) (.ref CB) = some true)
    (su_Ended_BadThrow : PySem.W.subIn K (.ref CD) (.ref CB) = some false)
    (icEnded : PySem.W.isClsIn K CD = true)
    (su_Ended_Ended : PySem.W.subIn K (.ref CD) (.ref CD) = some true)
    (c21 : PySem.W.codeIn K cd21 "_law_thrown" = true)
    (k21 : PySem.W.keepIn K (.ref f21) = true)
    (c22 : PySem.W.codeIn K cd22 "_law_frac" = true)
    (k22 : PySem.W.keepIn K (.ref f22) = true)
    (c23 : PySem.W.codeIn K cd23 "_law_times" = true)
    (k23 : PySem.W.keepIn K (.ref f23) = true)
    (z_tuple : PySem.W.nsIn K mainGlobals "tuple" = some none)
    (z_sorted : PySem.W.nsIn K mainGlobals "sorted" = some none)
    (z_set : PySem.W.nsIn K mainGlobals "set" = some none)
    (c24 : PySem.W.codeIn K cd24 "_law_is" = true)
    (k24 : PySem.W.keepIn K (.ref f24) = true)
    (pg25 : PySem.W.specialIn K (.ref P25) "__get__" = some (some (.builtin "property.__get__")))
    (pt25 : PySem.W.takesIn K (.ref P25) = some true)
    (c25 : PySem.W.codeIn K cd25 "Round.holder" = true)
    (k25 : PySem.W.keepIn K (.ref f25) = true)
    (c26 : PySem.W.codeIn K cd26 "on_table" = true)
    (k26 : PySem.W.keepIn K (.ref f26) = true)
    (pg27 : PySem.W.specialIn K (.ref P27) "__get__" = some (some (.builtin "property.__get__")))
    (pt27 : PySem.W.takesIn K (.ref P27) = some true)
    (c27 : PySem.W.codeIn K cd27 "Round.had" = true)
    (k27 : PySem.W.keepIn K (.ref f27) = true)
    (z_range : PySem.W.nsIn K mainGlobals "range" = some none)
    (pg28 : PySem.W.specialIn K (.ref P28) "__get__" = some (some (.builtin "property.__get__")))
    (pt28 : PySem.W.takesIn K (.ref P28) = some true)
    (c28 : PySem.W.codeIn K cd28 "Round.chance" = true)
    (k28 : PySem.W.keepIn K (.ref f28) = true)
    (pg29 : PySem.W.specialIn K (.ref P29) "__get__" = some (some (.builtin "property.__get__")))
    (pt29 : PySem.W.takesIn K (.ref P29) = some true)
    (c29 : PySem.W.codeIn K cd29 "Round.log" = true)
    (k29 : PySem.W.keepIn K (.ref f29) = true)
    (pg30 : PySem.W.specialIn K (.ref P30) "__get__" = some (some (.builtin "property.__get__")))
    (pt30 : PySem.W.takesIn K (.ref P30) = some true)
    (c30 : PySem.W.codeIn K cd30 "Round.last" = true)
    (k30 : PySem.W.keepIn K (.ref f30) = true)
    (pg31 : PySem.W.specialIn K (.ref P31) "__get__" = some (some (.builtin "property.__get__")))
    (pt31 : PySem.W.takesIn K (.ref P31) = some true)
    (c31 : PySem.W.codeIn K cd31 "Round.number" = true)
    (k31 : PySem.W.keepIn K (.ref f31) = true)
    (pg32 : PySem.W.specialIn K (.ref P32) "__get__" = some (some (.builtin "property.__get__")))
    (pt32 : PySem.W.takesIn K (.ref P32) = some true)
    (c32 : PySem.W.codeIn K cd32 "Round.shares" = true)
    (k32 : PySem.W.keepIn K (.ref f32) = true)
    (c33 : PySem.W.codeIn K cd33 "Round.__len__" = true)
    (k33 : PySem.W.keepIn K (.ref f33) = true)
    (i33 : PySem.W.isFn K (.ref f33) = true)
    (c34 : PySem.W.codeIn K cd34 "Shares.__eq__" = true)
    (k34 : PySem.W.keepIn K (.ref f34) = true)
    (i34 : PySem.W.isFn K (.ref f34) = true)
    (caS : PySem.W.findIn K (.ref S) "__class__" = some (some (.builtin "object.__class__")))
    (cnS : PySem.W.specialIn K (.builtin "object.__class__") "__get__" = some (some (.builtin "getset_descriptor.__get__")))
    (ctS : PySem.W.takesIn K (.builtin "object.__class__") = some true)
    (cmS : PySem.W.mroIn K S (.type "object") = some true)
    (icS : PySem.W.isClsIn K S = true)
    (tyS : PySem.W.typeIn K (.ref S) = some (.type "type"))
    (su_tuple_S : PySem.W.subIn K (.type "tuple") (.ref S) = some false)
    (nf_tuple : PySem.W.notFirst K S (.type "tuple") = true)
    (c35 : PySem.W.codeIn K cd35 "_law_begun" = true)
    (k35 : PySem.W.keepIn K (.ref f35) = true)
    (gaBadNumber : PySem.W.findIn K (.ref CN) "__getattribute__" = some (some (.builtin "BaseException.__getattribute__")))
    (ggBadNumber : PySem.W.findIn K (.ref CN) "__getattr__" = some none)
    (hdBadNumber : PySem.W.hasDictIn K CN = true)
    (icBadNumber : PySem.W.isClsIn K CN = true)
    (su_BadNumber_BadNumber : PySem.W.subIn K (.ref CN) (.ref CN) = some true)
    : ∃ fd : FuncData, (∀ (s : Shared) (v : Value), BindsTo s fd ⟨[v], []⟩ [("_law_script", v)]) ∧ ∀ base : Heap, K.In base → base.Ns mainGlobals mg → FnOk l.prog w K mg base (L2.CX l.prog w) 12 fa fd ["_law_script"] (spLaw K) := by
  have e := hfa.symm.trans (PySem.W.mg_of X G aL)
  cases e
  have A__law_taken : At K mg "_law_taken" s__law_taken ["_law_row", "_law_many"] := ⟨_, _, PySem.W.mg_of X G a1, fun_mk (st := s__law_taken) l1 c1 k1, (fun_mk (st := s__law_taken) l1 c1 k1).binds (ps := ["_law_row", "_law_many"]) fun _ _ _ _ _ _ us hl => match us, hl with | [_, _], _ => rfl⟩
  have Z_int := PySem.W.mg_none_of X G z_int
  have Z_len := PySem.W.mg_none_of X G z_len
  have A__law_drawn : At K mg "_law_drawn" s__law_drawn ["_law_row"] := ⟨_, _, PySem.W.mg_of X G a2, fun_mk (st := s__law_drawn) l2 c2 k2, (fun_mk (st := s__law_drawn) l2 c2 k2).binds (ps := ["_law_row"]) fun _ _ _ _ _ _ us hl => match us, hl with | [_], _ => rfl⟩
  have A__law_made : At K mg "_law_made" s__law_made ["_law_d"] := ⟨_, _, PySem.W.mg_of X G a3, fun_mk (st := s__law_made) l3 c3 k3, (fun_mk (st := s__law_made) l3 c3 k3).binds (ps := ["_law_d"]) fun _ _ _ _ _ _ us hl => match us, hl with | [_], _ => rfl⟩
  have AC_Shares : AtC K mg "Shares" "Shares.__init__" S s_Shares_init ["self", "left", "right", "stay"] := ⟨_, _, PySem.W.mg_of X G nShares, ⟨mkShares, a4, iShares, kcShares⟩, fun_mk (st := s_Shares_init) l4 c4 k4, (fun_mk (st := s_Shares_init) l4 c4 k4).binds (ps := ["self", "left", "right", "stay"]) fun _ _ _ _ _ _ us hl => match us, hl with | [_, _, _, _], _ => rfl⟩
  have N_S : ∀ y ∈ shFs, NoAttr K S y := fun y hy => by
    simp only [shFs, List.mem_cons, List.not_mem_nil, or_false] at hy
    rcases hy with rfl | rfl | rfl | rfl | rfl
    · exact fS_lefts
    · exact fS_rights
    · exact fS_stays
    · exact fS_whole
    · exact fS_ratio
  have shc : ShC K S := ⟨⟨pgS, hdS, poS, saS⟩, N_S⟩
  have A_is_within : At K mg "is_within" s_is_within ["value", "low", "high"] := ⟨_, _, PySem.W.mg_of X G a5, fun_mk (st := s_is_within) l5 c5 k5, (fun_mk (st := s_is_within) l5 c5 k5).binds (ps := ["value", "low", "high"]) fun _ _ _ _ _ _ us hl => match us, hl with | [_, _, _], _ => rfl⟩
  have A_is_whole : At K mg "is_whole" s_is_whole ["value"] := ⟨_, _, PySem.W.mg_of X G a6, fun_mk (st := s_is_whole) l6 c6 k6, (fun_mk (st := s_is_whole) l6 c6 k6).binds (ps := ["value"]) fun _ _ _ _ _ _ us hl => match us, hl with | [_], _ => rfl⟩
  have Z_isinstance := PySem.W.mg_none_of X G z_isinstance
  have Z_bool := PySem.W.mg_none_of X G z_bool
  have A_fraction : At K mg "fraction" s_fraction ["number", "parts"] := ⟨_, _, PySem.W.mg_of X G a7, fun_mk (st := s_fraction) l7 c7 k7, (fun_mk (st := s_fraction) l7 c7 k7).binds (ps := ["number", "parts"]) fun _ _ _ _ _ _ us hl => match us, hl with | [_, _], _ => rfl⟩
  have A_common : At K mg "common" s_common ["one", "other"] := ⟨_, _, PySem.W.mg_of X G a8, fun_mk (st := s_common) l8 c8 k8, (fun_mk (st := s_common) l8 c8 k8).binds (ps := ["one", "other"]) fun _ _ _ _ _ _ us hl => match us, hl with | [_, _], _ => rfl⟩
  have Z_abs := PySem.W.mg_none_of X G z_abs
  have N_InvalidShare : ∀ y ∈ (["name"] : List Str), PySem.W.findIn K (.ref CE) y = some none := fun y hy => by
    rw [List.mem_singleton] at hy
    subst hy
    exact fInvalidShare_name
  have AE_InvalidShare : AtE K mg "InvalidShare" "InvalidShare.__init__" CE s_InvalidShare_init ["name"] := ⟨_, _, PySem.W.mg_of X G nInvalidShare, ⟨⟨_, _, _, _, _, _, _, _, _, _, _, _, _, _, _, eInvalidShare, rInvalidShare⟩, sInvalidShare, bInvalidShare, tInvalidShare, kInvalidShare⟩, a9, tfInvalidShare, N_InvalidShare, fun_mk (st := s_InvalidShare_init) l9 c9 k9, (fun_mk (st := s_InvalidShare_init) l9 c9 k9).binds (ps := ["self", "name"]) fun _ _ _ _ _ _ us hl => match us, hl with | [_, _], _ => rfl⟩
  have pe : PeC K mg := ⟨_, _, PySem.W.mg_of X G aPe, sPe, rPe, fPe⟩
  have Co_MOST_SHARE : Co K mg S "MOST_SHARE" (.int 9) := co_int X G o_MOST_SHARE
  have AC_Round : AtC K mg "Round" "Round.__init__" CR s_Round_init ["self", "shares", "n"] := ⟨_, _, PySem.W.mg_of X G nRound, ⟨mkRound, a10, iRound, kcRound⟩, fun_mk (st := s_Round_init) l10 c10 k10, (fun_mk (st := s_Round_init) l10 c10 k10).binds (ps := ["self", "shares", "n"]) fun _ _ _ _ _ _ us hl => match us, hl with | [_, _, _], _ => rfl⟩
  have N_R : ∀ y ∈ rdFs, NoAttr K CR y := fun y hy => by
    simp only [rdFs, List.mem_cons, List.not_mem_nil, or_false] at hy
    rcases hy with rfl | rfl | rfl | rfl
    · exact fR_source
    · exact fR_size
    · exact fR_states
    · exact fR_words
  have rdc : RdC K CR := ⟨⟨pgR, hdR, poR, saR⟩, N_R⟩
  have A_need_number : At K mg "need_number" s_need_number ["n", "low", "most"] := ⟨_, _, PySem.W.mg_of X G a11, fun_mk (st := s_need_number) l11 c11 k11, (fun_mk (st := s_need_number) l11 c11 k11).binds (ps := ["n", "low", "most"]) fun _ _ _ _ _ _ us hl => match us, hl with | [_, _, _], _ => rfl⟩
  have N_BadNumber : ∀ y ∈ (["n"] : List Str), PySem.W.findIn K (.ref CN) y = some none := fun y hy => by
    rw [List.mem_singleton] at hy
    subst hy
    exact fBadNumber_n
  have AE_BadNumber : AtE K mg "BadNumber" "BadNumber.__init__" CN s_BadNumber_init ["n"] := ⟨_, _, PySem.W.mg_of X G nBadNumber, ⟨⟨_, _, _, _, _, _, _, _, _, _, _, _, _, _, _, eBadNumber, rBadNumber⟩, sBadNumber, bBadNumber, tBadNumber, kBadNumber⟩, a12, tfBadNumber, N_BadNumber, fun_mk (st := s_BadNumber_init) l12 c12 k12, (fun_mk (st := s_BadNumber_init) l12 c12 k12).binds (ps := ["self", "n"]) fun _ _ _ _ _ _ us hl => match us, hl with | [_, _], _ => rfl⟩
  have Co_ONE : Co K mg S "ONE" (fr 1) := co_pair X G o_ONE ol_ONE
  have Co_MOST_SEATS : Co K mg S "MOST_SEATS" (.int 500) := co_int X G o_MOST_SEATS
  have AM_13 : AtM K CR "copy" "Round.copy" s_Round_copy ["self"] := ⟨_, _, ⟨a13, i13, k13⟩, fun_mk (st := s_Round_copy) l13 c13 k13, (fun_mk (st := s_Round_copy) l13 c13 k13).binds (ps := ["self"]) fun _ _ _ _ _ _ us hl => match us, hl with | [_], _ => rfl⟩
  have Z_list := PySem.W.mg_none_of X G z_list
  have AM_14 : AtM K CR "undo" "Round.undo" s_Round_undo ["self"] := ⟨_, _, ⟨a14, i14, k14⟩, fun_mk (st := s_Round_undo) l14 c14 k14, (fun_mk (st := s_Round_undo) l14 c14 k14).binds (ps := ["self"]) fun _ _ _ _ _ _ us hl => match us, hl with | [_], _ => rfl⟩
  have A__law_moved : At K mg "_law_moved" s__law_moved ["_law_row", "_law_play", "_law_d", "_law_n", "_law_s"] := ⟨_, _, PySem.W.mg_of X G a15, fun_mk (st := s__law_moved) l15 c15 k15, (fun_mk (st := s__law_moved) l15 c15 k15).binds (ps := ["_law_row", "_law_play", "_law_d", "_law_n", "_law_s"]) fun _ _ _ _ _ _ us hl => match us, hl with | [_, _, _, _, _], _ => rfl⟩
  have A__law_told : At K mg "_law_told" s__law_told ["_law_play", "_law_word"] := ⟨_, _, PySem.W.mg_of X G a16, fun_mk (st := s__law_told) l16 c16 k16, (fun_mk (st := s__law_told) l16 c16 k16).binds (ps := ["_law_play", "_law_word"]) fun _ _ _ _ _ _ us hl => match us, hl with | [_, _], _ => rfl⟩
  have AM_17 : AtM K CR "throw" "Round.throw" s_Round_throw ["self", "word"] := ⟨_, _, ⟨a17, i17, k17⟩, fun_mk (st := s_Round_throw) l17 c17 k17, (fun_mk (st := s_Round_throw) l17 c17 k17).binds (ps := ["self", "word"]) fun _ _ _ _ _ _ us hl => match us, hl with | [_, _], _ => rfl⟩
  have N_BadThrow : ∀ y ∈ ([] : List Str), PySem.W.findIn K (.ref CB) y = some none := fun y hy => nomatch hy
  have AE_BadThrow : AtE K mg "BadThrow" "BadThrow.__init__" CB s_BadThrow_init [] := ⟨_, _, PySem.W.mg_of X G nBadThrow, ⟨⟨_, _, _, _, _, _, _, _, _, _, _, _, _, _, _, eBadThrow, rBadThrow⟩, sBadThrow, bBadThrow, tBadThrow, kBadThrow⟩, a18, tfBadThrow, N_BadThrow, fun_mk (st := s_BadThrow_init) l18 c18 k18, (fun_mk (st := s_BadThrow_init) l18 c18 k18).binds (ps := ["self"]) fun _ _ _ _ _ _ us hl => match us, hl with | [_], _ => rfl⟩
  have N_Ended : ∀ y ∈ ([] : List Str), PySem.W.findIn K (.ref CD) y = some none := fun y hy => nomatch hy
  have AE_Ended : AtE K mg "Ended" "Ended.__init__" CD s_Ended_init [] := ⟨_, _, PySem.W.mg_of X G nEnded, ⟨⟨_, _, _, _, _, _, _, _, _, _, _, _, _, _, _, eEnded, rEnded⟩, sEnded, bEnded, tEnded, kEnded⟩, a19, tfEnded, N_Ended, fun_mk (st := s_Ended_init) l19 c19 k19, (fun_mk (st := s_Ended_init) l19 c19 k19).binds (ps := ["self"]) fun _ _ _ _ _ _ us hl => match us, hl with | [_], _ => rfl⟩
  have A_product : At K mg "product" s_product ["one", "other"] := ⟨_, _, PySem.W.mg_of X G a20, fun_mk (st := s_product) l20 c20 k20, (fun_mk (st := s_product) l20 c20 k20).binds (ps := ["one", "other"]) fun _ _ _ _ _ _ us hl => match us, hl with | [_, _], _ => rfl⟩
  have Z_str := PySem.W.mg_none_of X G z_str
  have Z_min := PySem.W.mg_none_of X G z_min
  have Z_max := PySem.W.mg_none_of X G z_max
  have A__law_thrown : At K mg "_law_thrown" s__law_thrown ["_law_d", "_law_n", "_law_s", "_law_word"] := ⟨_, _, PySem.W.mg_of X G a21, fun_mk (st := s__law_thrown) l21 c21 k21, (fun_mk (st := s__law_thrown) l21 c21 k21).binds (ps := ["_law_d", "_law_n", "_law_s", "_law_word"]) fun _ _ _ _ _ _ us hl => match us, hl with | [_, _, _, _], _ => rfl⟩
  have A__law_frac : At K mg "_law_frac" s__law_frac ["_law_number", "_law_parts"] := ⟨_, _, PySem.W.mg_of X G a22, fun_mk (st := s__law_frac) l22 c22 k22, (fun_mk (st := s__law_frac) l22 c22 k22).binds (ps := ["_law_number", "_law_parts"]) fun _ _ _ _ _ _ us hl => match us, hl with | [_, _], _ => rfl⟩
  have A__law_times : At K mg "_law_times" s__law_times ["_law_one", "_law_mate"] := ⟨_, _, PySem.W.mg_of X G a23, fun_mk (st := s__law_times) l23 c23 k23, (fun_mk (st := s__law_times) l23 c23 k23).binds (ps := ["_law_one", "_law_mate"]) fun _ _ _ _ _ _ us hl => match us, hl with | [_, _], _ => rfl⟩
  have Z_tuple := PySem.W.mg_none_of X G z_tuple
  have Z_sorted := PySem.W.mg_none_of X G z_sorted
  have Z_set := PySem.W.mg_none_of X G z_set
  have A__law_is : At K mg "_law_is" s__law_is ["_law_play", "_law_d", "_law_n", "_law_s"] := ⟨_, _, PySem.W.mg_of X G a24, fun_mk (st := s__law_is) l24 c24 k24, (fun_mk (st := s__law_is) l24 c24 k24).binds (ps := ["_law_play", "_law_d", "_law_n", "_law_s"]) fun _ _ _ _ _ _ us hl => match us, hl with | [_, _, _, _], _ => rfl⟩
  have AG_25 : AtG K CR "holder" "Round.holder" s_Round_holder ["self"] := ⟨_, _, _, ⟨pf25, pg25, pt25, _, a25⟩, fun_mk (st := s_Round_holder) l25 c25 k25, (fun_mk (st := s_Round_holder) l25 c25 k25).binds (ps := ["self"]) fun _ _ _ _ _ _ us hl => match us, hl with | [_], _ => rfl⟩
  have A_on_table : At K mg "on_table" s_on_table ["place", "n"] := ⟨_, _, PySem.W.mg_of X G a26, fun_mk (st := s_on_table) l26 c26 k26, (fun_mk (st := s_on_table) l26 c26 k26).binds (ps := ["place", "n"]) fun _ _ _ _ _ _ us hl => match us, hl with | [_, _], _ => rfl⟩
  have AG_27 : AtG K CR "had" "Round.had" s_Round_had ["self"] := ⟨_, _, _, ⟨pf27, pg27, pt27, _, a27⟩, fun_mk (st := s_Round_had) l27 c27 k27, (fun_mk (st := s_Round_had) l27 c27 k27).binds (ps := ["self"]) fun _ _ _ _ _ _ us hl => match us, hl with | [_], _ => rfl⟩
  have Z_range := PySem.W.mg_none_of X G z_range
  have AG_28 : AtG K CR "chance" "Round.chance" s_Round_chance ["self"] := ⟨_, _, _, ⟨pf28, pg28, pt28, _, a28⟩, fun_mk (st := s_Round_chance) l28 c28 k28, (fun_mk (st := s_Round_chance) l28 c28 k28).binds (ps := ["self"]) fun _ _ _ _ _ _ us hl => match us, hl with | [_], _ => rfl⟩
  have AG_29 : AtG K CR "log" "Round.log" s_Round_log ["self"] := ⟨_, _, _, ⟨pf29, pg29, pt29, _, a29⟩, fun_mk (st := s_Round_log) l29 c29 k29, (fun_mk (st := s_Round_log) l29 c29 k29).binds (ps := ["self"]) fun _ _ _ _ _ _ us hl => match us, hl with | [_], _ => rfl⟩
  have AG_30 : AtG K CR "last" "Round.last" s_Round_last ["self"] := ⟨_, _, _, ⟨pf30, pg30, pt30, _, a30⟩, fun_mk (st := s_Round_last) l30 c30 k30, (fun_mk (st := s_Round_last) l30 c30 k30).binds (ps := ["self"]) fun _ _ _ _ _ _ us hl => match us, hl with | [_], _ => rfl⟩
  have AG_31 : AtG K CR "number" "Round.number" s_Round_number ["self"] := ⟨_, _, _, ⟨pf31, pg31, pt31, _, a31⟩, fun_mk (st := s_Round_number) l31 c31 k31, (fun_mk (st := s_Round_number) l31 c31 k31).binds (ps := ["self"]) fun _ _ _ _ _ _ us hl => match us, hl with | [_], _ => rfl⟩
  have AG_32 : AtG K CR "shares" "Round.shares" s_Round_shares ["self"] := ⟨_, _, _, ⟨pf32, pg32, pt32, _, a32⟩, fun_mk (st := s_Round_shares) l32 c32 k32, (fun_mk (st := s_Round_shares) l32 c32 k32).binds (ps := ["self"]) fun _ _ _ _ _ _ us hl => match us, hl with | [_], _ => rfl⟩
  have AM_33 : AtM K CR "__len__" "Round.__len__" s_Round_len ["self"] := ⟨_, _, ⟨a33, i33, k33⟩, fun_mk (st := s_Round_len) l33 c33 k33, (fun_mk (st := s_Round_len) l33 c33 k33).binds (ps := ["self"]) fun _ _ _ _ _ _ us hl => match us, hl with | [_], _ => rfl⟩
  have AM_34 : AtM K S "__eq__" "Shares.__eq__" s_Shares_eq ["self", "other"] := ⟨_, _, ⟨a34, i34, k34⟩, fun_mk (st := s_Shares_eq) l34 c34 k34, (fun_mk (st := s_Shares_eq) l34 c34 k34).binds (ps := ["self", "other"]) fun _ _ _ _ _ _ us hl => match us, hl with | [_, _], _ => rfl⟩
  have A__law_begun : At K mg "_law_begun" s__law_begun ["_law_shares", "_law_n"] := ⟨_, _, PySem.W.mg_of X G a35, fun_mk (st := s__law_begun) l35 c35 k35, (fun_mk (st := s__law_begun) l35 c35 k35).binds (ps := ["_law_shares", "_law_n"]) fun _ _ _ _ _ _ us hl => match us, hl with | [_, _], _ => rfl⟩
  refine ⟨PySem.W.fnOf "law" "law" (defArgs s_law) (defBody s_law) (defScope s_law) .none kVL dcL pmL anL cdL ctL, fun s v => .of_eq rfl, fun base _ _ => ?_⟩
  have hkn_taken : Kn_taken l.prog w K mg base S := kn_taken A__law_taken Z_int Z_len
  have hkn__law_drawn : Kn__law_drawn l.prog w K mg base S := kn__law_drawn A__law_drawn hkn_taken
  have hkn_is_whole : Kn_is_whole l.prog w K mg base S := kn_is_whole A_is_whole Z_isinstance Z_int Z_bool
  have hkn_is_within : Kn_is_within l.prog w K mg base S := kn_is_within A_is_within hkn_is_whole
  have hkn_common : Kn_common l.prog w K mg base S := kn_common A_common Z_abs
  have hkn_fraction : Kn_fraction l.prog w K mg base S := kn_fraction A_fraction hkn_common
  have hkne_InvalidShare : KnE l.prog w K mg base "InvalidShare" 1 CE ["name"] := kne_InvalidShare AE_InvalidShare pe
  have hkn_Shares : Kn_Shares l.prog w K mg base S CE := kn_Shares AC_Shares shc hkn_is_within hkn_fraction hkne_InvalidShare Co_MOST_SHARE
  have hkn__law_made : Kn__law_made l.prog w K mg base S := kn__law_made A__law_made hkn_Shares
  have hkne_BadNumber : KnE l.prog w K mg base "BadNumber" 1 CN ["n"] := kne_BadNumber AE_BadNumber pe
  have hkn_need_number : Kn_need_number l.prog w K mg base S CN := kn_need_number A_need_number hkn_is_within hkne_BadNumber
  have hkn_RoundR : Kn_RoundR l.prog w K mg base S CR CN := kn_RoundR AC_Round rdc hkn_need_number Co_ONE Co_MOST_SEATS
  have hkn_copyR : Kn_copyR l.prog w K mg base S CR := kn_copyR AM_13 rdc hkn_RoundR Z_list
  have hkn_undoR : Kn_undoR l.prog w K mg base S CR := kn_undoR AM_14 rdc Z_len
  have hkne_BadThrow : KnE l.prog w K mg base "BadThrow" 1 CB [] := kne_BadThrow AE_BadThrow pe
  have hkne_Ended : KnE l.prog w K mg base "Ended" 1 CD [] := kne_Ended AE_Ended pe
  have hkn_product : Kn_q2 l.prog w K mg base S "product" (fun _ _ => True) (fun a b => a * b) := kn_product A_product hkn_fraction
  have hkn_throwR : Kn_throwR l.prog w K mg base S CR CB CD := kn_throwR AM_17 rdc shc hkne_BadThrow hkne_Ended hkn_fraction hkn_product Z_isinstance Z_str Z_min Z_max
  have hkn__law_told : Kn__law_told l.prog w K mg base S CR := kn__law_told A__law_told rdc hkn_throwR (PySem.W.mg_of X G nBadThrow) (PySem.W.mg_of X G nEnded) (exm_pair bBadThrow icBadThrow tBadThrow su_BadThrow_BadThrow) (exm_pair bBadThrow icBadThrow tBadThrow su_Ended_BadThrow) (exm_pair bEnded icEnded tEnded su_Ended_Ended)
  have hkn__law_frac : Kn__law_frac l.prog w K mg base S := kn__law_frac A__law_frac Z_abs
  have hkn__law_times : Kn_l2 l.prog w K mg base S "_law_times" (fun a b => a * b) := kn__law_times A__law_times hkn__law_frac
  have hkn__law_thrown : Kn__law_thrown l.prog w K mg base S := kn__law_thrown A__law_thrown hkn__law_frac hkn__law_times Z_tuple Z_sorted Z_set
  have hkn__law_moved : Kn__law_moved l.prog w K mg base S CR := kn__law_moved A__law_moved rdc hkn_taken hkn__law_told hkn__law_thrown hkn_throwR Z_len Z_int
  have hkn_on_table : Kn_on_table l.prog w K mg base S := kn_on_table A_on_table
  have hkh_holder : Kh_rd l.prog w K mg base S CR "holder" 2 (fun i => .int (phi i.2.1 (stas i.1.1 i.1.2.1 i.1.2.2 i.2.2).1).1) := kh_holder AG_25 rdc hkn_on_table
  have hkh_had : Kh_rd l.prog w K mg base S CR "had" 2 (fun i => .tup ((phi i.2.1 (stas i.1.1 i.1.2.1 i.1.2.2 i.2.2).1).2.map .int)) := kh_had AG_27 rdc hkn_on_table Z_range Z_sorted Z_tuple
  have hkh_chance : Kh_rd l.prog w K mg base S CR "chance" 1 (fun i => fr (stas i.1.1 i.1.2.1 i.1.2.2 i.2.2).2) := kh_chance AG_28 rdc
  have hkh_log : Kh_rd l.prog w K mg base S CR "log" 1 (fun i => .tup (i.2.2.map .str)) := kh_log AG_29 rdc
  have hkh_last : Kh_rd l.prog w K mg base S CR "last" 2 (fun i => if pEnd i.2.1 (stas i.1.1 i.1.2.1 i.1.2.2 i.2.2).1 = true then .int (phi i.2.1 (stas i.1.1 i.1.2.1 i.1.2.2 i.2.2).1).1 else .non) := kh_last AG_30 rdc hkn_on_table
  have hkh_number : Kh_rd l.prog w K mg base S CR "number" 1 (fun i => .int (i.2.1 : Int)) := kh_number AG_31 rdc
  have hkh_shares : Kh_rd l.prog w K mg base S CR "shares" 1 (fun i => shD S i.1.1 i.1.2.1 i.1.2.2) := kh_shares AG_32 rdc
  have hkn_lenR : Kn_lenR l.prog w K mg base S CR := kn_lenR AM_33 rdc Z_len
  have hkn_eq : Kn_eq l.prog w K mg base S := kn_eq AM_34 shc (⟨shc.cls, caS, cnS, ctS, cmS, if_pos (beq_self_eq_true _)⟩ : C8.InsC K S) (kit_pair rfl icS tyS su_tuple_S) Z_isinstance (PySem.W.mg_of X G nShares)
  have hkn__law_is : Kn__law_is l.prog w K mg base S CR := kn__law_is A__law_is rdc hkh_holder hkh_had hkh_chance hkh_log hkh_last hkh_number hkh_shares hkn_lenR hkn__law_made hkn_eq nf_tuple Z_len
  have hkn_Round : Kn_Round l.prog w K mg base S CR CN := kn_Round AC_Round rdc hkn_need_number Co_ONE Co_MOST_SEATS
  have hkn__law_begun : Kn__law_begun l.prog w K mg base S := kn__law_begun A__law_begun hkn_Round (PySem.W.mg_of X G nBadNumber) ⟨⟨gaBadNumber, ggBadNumber, bBadNumber, hdBadNumber⟩, fBadNumber_n⟩ (exm_pair bBadNumber icBadNumber tBadNumber su_BadNumber_BadNumber)
  exact law_end (S := S) (ok_law (fun_mk (st := s_law) lL cL kL) hkn_taken hkn__law_drawn hkn__law_made hkn_RoundR hkn_copyR hkn_undoR hkn__law_moved hkn__law_is hkn__law_begun rdc Z_range Z_len Z_max Z_int)
end Pz
open PySem PySem.W PyProof.Rows in
set_option maxRecDepth 100000 in
set_option maxHeartbeats 0 in
theorem PySem.Challenge.cw_parcelends_k17_whole_rounds_holds : PySem.Challenge.rw_parcelends_k17_whole_rounds.Holds := by
  w_on; o_law; k_head; (case hw => w_witness2)
  k_fill
  refine Fz.walk_law (l := PySem.Challenge.rw_parcelends_k17_whole_rounds) (k := 12) (x := "_law_script") rfl rfl ⟨rfl, by decide, by decide⟩ (fun w h Y => PySem.W.kIn_of Y) ?F
  case F =>
    intro w mg fa h KX G hmg
    refine' Pz.all_mk KX G hmg ?aL ?a1 ?a2 ?a3 ?nShares ?a5 ?a6 ?a7 ?a8 ?nInvalidShare ?aPe ?nRound ?a11 ?nBadNumber ?o_ONE ?a15 ?a16 ?nBadThrow ?nEnded ?a20 ?a21 ?a22 ?a23 ?a24 ?a26 ?a35 ?a4 ?a9 ?a10 ?a12 ?a13 ?a14 ?a17 ?a18 ?a19 ?pf25 ?pf27 ?pf28 ?pf29 ?pf30 ?pf31 ?pf32 ?a33 ?a34 ?a25 ?a27 ?a28 ?a29 ?a30 ?a31 ?a32 ?lL ?l1 ?l2 ?l3 ?l4 ?l5 ?l6 ?l7 ?l8 ?eInvalidShare ?l9 ?l10 ?l11 ?eBadNumber ?l12 ?ol_ONE ?l13 ?l14 ?l15 ?l16 ?l17 ?eBadThrow ?l18 ?eEnded ?l19 ?l20 ?l21 ?l22 ?l23 ?l24 ?l25 ?l26 ?l27 ?l28 ?l29 ?l30 ?l31 ?l32 ?l33 ?l34 ?l35 ?cL ?kL ?c1 ?k1 ?z_int ?z_len ?c2 ?k2 ?c3 ?k3 ?c4 ?k4 ?iShares ?mkShares ?kcShares ?pgS ?hdS ?poS ?saS ?fS_lefts ?fS_rights ?fS_stays ?fS_whole ?fS_ratio ?c5 ?k5 ?c6 ?k6 ?z_isinstance ?z_bool ?c7 ?k7 ?c8 ?k8 ?z_abs ?rInvalidShare ?sInvalidShare ?bInvalidShare ?tInvalidShare ?kInvalidShare ?c9 ?k9 ?tfInvalidShare ?fInvalidShare_name ?sPe ?rPe ?fPe ?o_MOST_SHARE ?c10 ?k10 ?iRound ?mkRound ?kcRound ?pgR ?hdR ?poR ?saR ?fR_source ?fR_size ?fR_states ?fR_words ?c11 ?k11 ?rBadNumber ?sBadNumber ?bBadNumber ?tBadNumber ?kBadNumber ?c12 ?k12 ?tfBadNumber ?fBadNumber_n ?o_MOST_SEATS ?c13 ?k13 ?i13 ?z_list ?c14 ?k14 ?i14 ?c15 ?k15 ?c16 ?k16 ?c17 ?k17 ?i17 ?rBadThrow ?sBadThrow ?bBadThrow ?tBadThrow ?kBadThrow ?c18 ?k18 ?tfBadThrow ?rEnded ?sEnded ?bEnded ?tEnded ?kEnded ?c19 ?k19 ?tfEnded ?c20 ?k20 ?z_str ?z_min ?z_max ?icBadThrow ?su_BadThrow_BadThrow ?su_Ended_BadThrow ?icEnded ?su_Ended_Ended ?c21 ?k21 ?c22 ?k22 ?c23 ?k23 ?z_tuple ?z_sorted ?z_set ?c24 ?k24 ?pg25 ?pt25 ?c25 ?k25 ?c26 ?k26 ?pg27 ?pt27 ?c27 ?k27 ?z_range ?pg28 ?pt28 ?c28 ?k28 ?pg29 ?pt29 ?c29 ?k29 ?pg30 ?pt30 ?c30 ?k30 ?pg31 ?pt31 ?c31 ?k31 ?pg32 ?pt32 ?c32 ?k32 ?c33 ?k33 ?i33 ?c34 ?k34 ?i34 ?caS ?cnS ?ctS ?cmS ?icS ?tyS ?su_tuple_S ?nf_tuple ?c35 ?k35 ?gaBadNumber ?ggBadNumber ?hdBadNumber ?icBadNumber ?su_BadNumber_BadNumber
    (case aL => k_is)
    (case a1 => k_is)
    (case a2 => k_is)
    (case a3 => k_is)
    (case nShares => k_is)
    (case a5 => k_is)
    (case a6 => k_is)
    (case a7 => k_is)
    (case a8 => k_is)
    (case nInvalidShare => k_is)
    (case aPe => k_is)
    (case nRound => k_is)
    (case a11 => k_is)
    (case nBadNumber => k_is)
    (case o_ONE => k_is)
    (case a15 => k_is)
    (case a16 => k_is)
    (case nBadThrow => k_is)
    (case nEnded => k_is)
    (case a20 => k_is)
    (case a21 => k_is)
    (case a22 => k_is)
    (case a23 => k_is)
    (case a24 => k_is)
    (case a26 => k_is)
    (case a35 => k_is)
    (case a4 => k_is)
    (case a9 => k_is)
    (case a10 => k_is)
    (case a12 => k_is)
    (case a13 => k_is)
    (case a14 => k_is)
    (case a17 => k_is)
    (case a18 => k_is)
    (case a19 => k_is)
    (case pf25 => k_is)
    (case pf27 => k_is)
    (case pf28 => k_is)
    (case pf29 => k_is)
    (case pf30 => k_is)
    (case pf31 => k_is)
    (case pf32 => k_is)
    (case a33 => k_is)
    (case a34 => k_is)
    (case a25 => k_is)
    (case a27 => k_is)
    (case a28 => k_is)
    (case a29 => k_is)
    (case a30 => k_is)
    (case a31 => k_is)
    (case a32 => k_is)
    (case lL => k_is)
    (case l1 => k_is)
    (case l2 => k_is)
    (case l3 => k_is)
    (case l4 => k_is)
    (case l5 => k_is)
    (case l6 => k_is)
    (case l7 => k_is)
    (case l8 => k_is)
    (case eInvalidShare => k_is)
    (case l9 => k_is)
    (case l10 => k_is)
    (case l11 => k_is)
    (case eBadNumber => k_is)
    (case l12 => k_is)
    (case ol_ONE => k_is)
    (case l13 => k_is)
    (case l14 => k_is)
    (case l15 => k_is)
    (case l16 => k_is)
    (case l17 => k_is)
    (case eBadThrow => k_is)
    (case l18 => k_is)
    (case eEnded => k_is)
    (case l19 => k_is)
    (case l20 => k_is)
    (case l21 => k_is)
    (case l22 => k_is)
    (case l23 => k_is)
    (case l24 => k_is)
    (case l25 => k_is)
    (case l26 => k_is)
    (case l27 => k_is)
    (case l28 => k_is)
    (case l29 => k_is)
    (case l30 => k_is)
    (case l31 => k_is)
    (case l32 => k_is)
    (case l33 => k_is)
    (case l34 => k_is)
    (case l35 => k_is)
    (case cL => k_is)
    (case kL => k_is)
    (case c1 => k_is)
    (case k1 => k_is)
    (case z_int => k_is)
    (case z_len => k_is)
    (case c2 => k_is)
    (case k2 => k_is)
    (case c3 => k_is)
    (case k3 => k_is)
    (case c4 => k_is)
    (case k4 => k_is)
    (case iShares => k_is)
    (case mkShares => k_is)
    (case kcShares => k_is)
    (case pgS => k_is)
    (case hdS => k_is)
    (case poS => k_is)
    (case saS => k_is)
    (case fS_lefts => k_is)
    (case fS_rights => k_is)
    (case fS_stays => k_is)
    (case fS_whole => k_is)
    (case fS_ratio => k_is)
    (case c5 => k_is)
    (case k5 => k_is)
    (case c6 => k_is)
    (case k6 => k_is)
    (case z_isinstance => k_is)
    (case z_bool => k_is)
    (case c7 => k_is)
    (case k7 => k_is)
    (case c8 => k_is)
    (case k8 => k_is)
    (case z_abs => k_is)
    (case rInvalidShare => first | rfl | decide)
    (case sInvalidShare => k_is)
    (case bInvalidShare => k_is)
    (case tInvalidShare => k_is)
    (case kInvalidShare => k_is)
    (case c9 => k_is)
    (case k9 => k_is)
    (case tfInvalidShare => k_is)
    (case fInvalidShare_name => k_is)
    (case sPe => k_is)
    (case rPe => k_is)
    (case fPe => k_is)
    (case o_MOST_SHARE => k_is)
    (case c10 => k_is)
    (case k10 => k_is)
    (case iRound => k_is)
    (case mkRound => k_is)
    (case kcRound => k_is)
    (case pgR => k_is)
    (case hdR => k_is)
    (case poR => k_is)
    (case saR => k_is)
    (case fR_source => k_is)
    (case fR_size => k_is)
    (case fR_states => k_is)
    (case fR_words => k_is)
    (case c11 => k_is)
    (case k11 => k_is)
    (case rBadNumber => first | rfl | decide)
    (case sBadNumber => k_is)
    (case bBadNumber => k_is)
    (case tBadNumber => k_is)
    (case kBadNumber => k_is)
    (case c12 => k_is)
    (case k12 => k_is)
    (case tfBadNumber => k_is)
    (case fBadNumber_n => k_is)
    (case o_MOST_SEATS => k_is)
    (case c13 => k_is)
    (case k13 => k_is)
    (case i13 => k_is)
    (case z_list => k_is)
    (case c14 => k_is)
    (case k14 => k_is)
    (case i14 => k_is)
    (case c15 => k_is)
    (case k15 => k_is)
    (case c16 => k_is)
    (case k16 => k_is)
    (case c17 => k_is)
    (case k17 => k_is)
    (case i17 => k_is)
    (case rBadThrow => first | rfl | decide)
    (case sBadThrow => k_is)
    (case bBadThrow => k_is)
    (case tBadThrow => k_is)
    (case kBadThrow => k_is)
    (case c18 => k_is)
    (case k18 => k_is)
    (case tfBadThrow => k_is)
    (case rEnded => first | rfl | decide)
    (case sEnded => k_is)
    (case bEnded => k_is)
    (case tEnded => k_is)
    (case kEnded => k_is)
    (case c19 => k_is)
    (case k19 => k_is)
    (case tfEnded => k_is)
    (case c20 => k_is)
    (case k20 => k_is)
    (case z_str => k_is)
    (case z_min => k_is)
    (case z_max => k_is)
    (case icBadThrow => k_is)
    (case su_BadThrow_BadThrow => k_is)
    (case su_Ended_BadThrow => k_is)
    (case icEnded => k_is)
    (case su_Ended_Ended => k_is)
    (case c21 => k_is)
    (case k21 => k_is)
    (case c22 => k_is)
    (case k22 => k_is)
    (case c23 => k_is)
    (case k23 => k_is)
    (case z_tuple => k_is)
    (case z_sorted => k_is)
    (case z_set => k_is)
    (case c24 => k_is)
    (case k24 => k_is)
    (case pg25 => k_is)
    (case pt25 => k_is)
    (case c25 => k_is)
    (case k25 => k_is)
    (case c26 => k_is)
    (case k26 => k_is)
    (case pg27 => k_is)
    (case pt27 => k_is)
    (case c27 => k_is)
    (case k27 => k_is)
    (case z_range => k_is)
    (case pg28 => k_is)
    (case pt28 => k_is)
    (case c28 => k_is)
    (case k28 => k_is)
    (case pg29 => k_is)
    (case pt29 => k_is)
    (case c29 => k_is)
    (case k29 => k_is)
    (case pg30 => k_is)
    (case pt30 => k_is)
    (case c30 => k_is)
    (case k30 => k_is)
    (case pg31 => k_is)
    (case pt31 => k_is)
    (case c31 => k_is)
    (case k31 => k_is)
    (case pg32 => k_is)
    (case pt32 => k_is)
    (case c32 => k_is)
    (case k32 => k_is)
    (case c33 => k_is)
    (case k33 => k_is)
    (case i33 => k_is)
    (case c34 => k_is)
    (case k34 => k_is)
    (case i34 => k_is)
    (case caS => k_is)
    (case cnS => k_is)
    (case ctS => k_is)
    (case cmS => k_is)
    (case icS => k_is)
    (case tyS => k_is)
    (case su_tuple_S => k_is)
    (case nf_tuple => k_is)
    (case c35 => k_is)
    (case k35 => k_is)
    (case gaBadNumber => k_is)
    (case ggBadNumber => k_is)
    (case hdBadNumber => k_is)
    (case icBadNumber => k_is)
    (case su_BadNumber_BadNumber => k_is)
