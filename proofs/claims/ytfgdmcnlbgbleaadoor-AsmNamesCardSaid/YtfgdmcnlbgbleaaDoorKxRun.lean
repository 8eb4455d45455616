/- The runner, part 9: the run of code, and that it is so. -/
import Derived.Test.YtfgdmcnlbgbleaaDoorKxBld
set_option linter.unusedSimpArgs false
set_option linter.unusedVariables false
set_option linter.unnecessarySimpa false
namespace Go.Kx
open Go
open Go.Sx (Grow Keep XC XS XT XI XK CK NK cmp cmpF cmpL cmpO cmpI theOrder Jump Ran SV SO kEq cmpK cmpK0 cmpK1 isNew pureK readK nth takeL dropL szT isAggT fnOk WF Post NoPanic CallsV endPostM)

inductive RV where
  | tmp (t : Nat)
  | cell (t : Nat) (ty : TypeId) (n : Nat) (agg : Bool)
structure FI where
  xc : XC
  nt : Nat
  rs : List RV
inductive KI where
  | c (x : XC)
  | b (id : Nat)
  | l (x : XC)
inductive OE where
  | nrm
  | ret
  | exit (id : Nat)
structure Out where
  e : OE
  F : Tr KV
  S : KS
  mks : Option (List Nat)
inductive RC where
  | pl (v : Value)
  | row (t : TypeId) (sz n : Nat) (l : List Value)
  | err (t : TypeId)
structure Mem where
  f : Nat
  args : List Value
  rs : List RC
structure Cfg where
  tab : Tr FI
  G : List (Nat × List Value)
  ct : List TypeId
  memo : List Mem
  q : World → Prop
  bld : Option Bld
def SameG (C : Cfg) (E : KE) : Prop := C.G = E.G ∧ E.N = E.b.heap.size ∧ C.q E.b
def veqKs : List Value → List KV → Bool
  | [], [] => true
  | x :: l, .v y :: m => (match veq x y with | true => veqKs l m | false => false)
  | _, _ => false
def veqL : List Value → List KV → Bool
  | [], [] => true
  | .agg ⟨vs⟩ :: l, .a ks :: m => (match veqKs vs ks with | true => veqL l m | false => false)
  | x :: l, .v y :: m => (match veq x y with | true => veqL l m | false => false)
  | _, _ => false
def findM : List Mem → Nat → List KV → Option (List RC)
  | [], _, _ => none
  | m :: l, f, args => match Nat.beq m.f f with
    | true => (match veqL m.args args with | true => some m.rs | false => findM l f args)
    | false => findM l f args
def bldF (o : Option Bld) (f : FuncId) (args : List KV) (S : KS) : Option KA := match o with
  | none => none
  | some B => match Nat.beq f B.fw with
    | true => some (kWrite B S args)
    | false => match Nat.beq f B.fs with
      | true => some (kString B S args)
      | false => none
def noRow : List RC → Bool
  | [] => true
  | .pl _ :: l => noRow l
  | .row .. :: _ => false
  | .err _ :: _ => false
def memoL (S : KS) : List RC → Option (List KV × KS)
  | [] => some ([], S)
  | .pl v :: l => (match memoL S l with | some (ks, S') => some (kc v :: ks, S') | none => none)
  | .row t sz n l :: r => (match noRow r, newE S (.grow t sz 0 (l.map .v)), memoL S r with
    | true, some (i, S1), some (ks, _) => some (.w i 0 0 n :: ks, S1)
    | _, _, _ => none)
  | .err t :: r => (match noRow r, newE S .gone, memoL S r with
    | true, some (i, S1), some (ks, _) => some (.i t (.p i 0) :: ks, S1)
    | _, _, _ => none)

def popTo (id : Nat) : List KI → Option (List KI)
  | [] => none
  | .b j :: k => match Nat.beq j id with | true => some k | false => popTo id k
  | _ :: k => popTo id k
def putF (F : Tr KV) : Option Nat → KV → Option (Tr KV)
  | none, _ => some F
  | some d, v => Tr.set 40 F d v
abbrev Rn := Nat → List KI → Tr KV → KS → Option (List Nat) → Option Out

def rsv (G : List (Nat × List Value)) (F : Tr KV) (S : KS) : List RV → Option (List KV)
  | [] => some []
  | .tmp t :: l => (match rsv G F S l with | some r => some (fg F t :: r) | none => none)
  | .cell t _ n agg :: l => (match rdp G S.T (fg F t) n with
    | some ks => (match one agg ks, rsv G F S l with | some v, some r => some (v :: r) | _, _ => none)
    | none => none)
def tupK : List KV → KV
  | [v] => v
  | l => .t l
def argF : List KV → Nat → Tr KV → Option (Tr KV)
  | [], _, F => some F
  | v :: l, n, F => match Tr.set 40 F n v with | some F' => argF l (n + 1) F' | none => none
def shut (S : KS) : List Nat → Option KS
  | [] => some S
  | i :: l => match S.T.get i with
    | some .df => (match setE S i .gone with | some S' => shut S' l | none => none)
    | _ => none
def setPs (F : Tr KV) : List Nat → List KV → Option (Tr KV)
  | [], [] => some F
  | p :: ps, v :: vs => (match Tr.set 40 F p v with | some F' => setPs F' ps vs | none => none)
  | _, _ => none

section
variable (C : Cfg) (ih : Rn)
def callF (f : FuncId) (args : List KV) (S : KS) : KA :=
  match bldF C.bld f args S with
  | some r => r
  | none => match findM C.memo f args with
  | some rs => (match memoL S rs with | some (ks, S') => some (tupK ks, S') | none => none)
  | none => match C.tab.get f with
  | none => none
  | some fi => match argF args 0 .e, Nat.ble args.length fi.nt with
    | some F0, true => (match ih fi.nt [.c fi.xc] F0 S (some []) with
      | some ⟨.exit _, _, _, _⟩ => none
      | some ⟨_, F, S', some mk⟩ => (match shut S' mk with
        | some S'' => (match rsv C.G F S'' fi.rs with | some vs => some (tupK vs, S'') | none => none)
        | none => none)
      | _ => none)
    | _, _ => none
def roundF (i : Nat) (args : List KV) (S : KS) : KA :=
  match S.T.get i with
  | some (.lp nt F ps as bd .ready none) => (match setPs F ps args, ps.all (fun p => Nat.blt p nt) with
    | some F1, true => (match ih nt [.c as] F1 S none with
      | some ⟨.nrm, F2, S2, none⟩ => (match S2.T.get i with
        | some (.lp nt' F' ps' as' bd' .ready none) => (match setE S2 i (.lp nt' F' ps' as' bd' .busy none) with
          | some S3 => (match ih nt [.c bd] F2 S3 none with
            | some ⟨e, _, S4, none⟩ => (match S4.T.get i with
              | some (.lp nt4 F4 ps4 as4 bd4 .busy none) => (match e with
                | .nrm => (match setE S4 i (.lp nt4 F4 ps4 as4 bd4 .ready none) with | some S5 => some (.v (.bool true), S5) | none => none)
                | .ret => (match setE S4 i (.lp nt4 F4 ps4 as4 bd4 .done (some .ret)) with | some S5 => some (.v (.bool false), S5) | none => none)
                | .exit id => (match setE S4 i (.lp nt4 F4 ps4 as4 bd4 .done (some (.exit id))) with | some S5 => some (.v (.bool false), S5) | none => none))
              | _ => none)
            | _ => none)
          | none => none)
        | _ => none)
      | _ => none)
    | _, _ => none)
  | _ => none
def callV (k : KV) (args : List KV) (S : KS) : KA := match k with
  | .f (.func g) first caps => callF C ih g (first ++ args ++ caps) S
  | .v (.func (.func g) ⟨[]⟩ ⟨[]⟩) => callF C ih g args S
  | .y i => roundF ih i args S
  | _ => none
def exI (F : Tr KV) (S : KS) : XI → KA
  | .still _ _ => none
  | .k x => kx C.G C.ct F S x
  | .call f args => callF C ih f (evL F args) S
  | .callv f args => callV C ih (ev F f) (evL F args) S
def gd (F : Tr KV) : Option (Nat × Bool) → Option Bool
  | none => some true
  | some (d, w) => match fg F d with
    | .v (.bool b) => (match b, w with | true, true => some true | false, false => some true | _, _ => some false)
    | .t [] => some false
    | _ => none
def exOps : List XS → Tr KV → KS → (Tr KV → KS → Option Out) → Option Out
  | [], F, S, K => K F S
  | ⟨dst, g, i⟩ :: l, F, S, K => match i with
    | .still d x => (match gd F g with
      | some true => (match kx C.G C.ct F S x with
        | some (kv, _) => (match kEqv S.T kv (fg F d) with | true => exOps l F S K | false => none)
        | none => none)
      | some false => exOps l F S K
      | none => none)
    | i => match gd F g with
      | some true => (match exI C ih F S i with
        | some (kv, S') => (match putF F dst kv with | some F' => exOps l F' S' K | none => none)
        | none => none)
      | some false => (match putF F dst (.t []) with | some F' => exOps l F' S K | none => none)
      | none => none
theorem exOps_cons {dst : Option Nat} {g : Option (Nat × Bool)} {i : XI} (hs : i.isStill = false) (l : List XS) (F : Tr KV) (S : KS) (K : Tr KV → KS → Option Out) : exOps C ih (⟨dst, g, i⟩ :: l) F S K = match gd F g with
      | some true => (match exI C ih F S i with
        | some (kv, S') => (match putF F dst kv with | some F' => exOps C ih l F' S' K | none => none)
        | none => none)
      | some false => (match putF F dst (.t []) with | some F' => exOps C ih l F' S K | none => none)
      | none => none := by cases i <;> first | rfl | cases hs
def vSame : Value → Value → Bool
  | .func (.func f) ⟨[]⟩ ⟨[]⟩, .func (.func g) ⟨[]⟩ ⟨[]⟩ => Nat.beq f g
  | a, b => veq a b
mutual
def kSame : KV → KV → Bool
  | .u, .u => true
  | .v a, .v b => vSame a b
  | .p i o, .p j q => (match Nat.beq i j with | true => Nat.beq o q | false => false)
  | .q i v o, .q j u q => (match Nat.beq i j, Nat.beq v u with | true, true => Nat.beq o q | _, _ => false)
  | .s i o n c, .s j q m d => (match Nat.beq i j, Nat.beq o q, Nat.beq n m with | true, true, true => Nat.beq c d | _, _, _ => false)
  | .w i v o n, .w j u q m => (match Nat.beq i j, Nat.beq v u, Nat.beq o q with | true, true, true => Nat.beq n m | _, _, _ => false)
  | .m i, .m j => Nat.beq i j
  | .y i, .y j => Nat.beq i j
  | .a l, .a m => kSameL l m
  | .t l, .t m => kSameL l m
  | .f (.func f) x y, .f (.func g) z w => (match Nat.beq f g, kSameL x z with | true, true => kSameL y w | _, _ => false)
  | .i t x, .i u y => (match Nat.beq t u with | true => kSame x y | false => false)
  | _, _ => false
def kSameL : List KV → List KV → Bool
  | [], [] => true
  | x :: l, y :: m => (match kSame x y with | true => kSameL l m | false => false)
  | _, _ => false
end
def oSame : KO → KO → Bool
  | .cells t l, .cells u m => (match Nat.beq t u with | true => kSameL l m | false => false)
  | .grow t s v l, .grow u z w m => (match Nat.beq t u, Nat.beq s z, Nat.beq v w with | true, true, true => kSameL l m | _, _, _ => false)
  | .map [], .map [] => true
  | _, _ => false
def fAll (F G : Tr KV) : List Nat → Bool
  | [] => true
  | d :: l => (match F.get d, G.get d with
    | some x, some y => (match kSame x y with | true => fAll F G l | false => false)
    | _, _ => false)
def tAll (F G : Tr KO) : List Nat → Bool
  | [] => true
  | d :: l => (match F.get d, G.get d with
    | some x, some y => (match oSame x y with | true => tAll F G l | false => false)
    | _, _ => false)
def touch (j : Nat) (F : Tr KV) : XK → Option (List Nat)
  | .alloc .. | .box .. | .buildS .. | .mkmap => some [j]
  | .store _ p _ => (match ev F p with
    | .p i _ => some [i]
    | .q i _ _ => some [i]
    | _ => none)
  | x => (match pureK x, readK x with | false, false => none | _, _ => some [])
def dsts : Option Nat → List Nat → List Nat
  | some d, l => d :: l
  | none, l => l
structure AO where
  F : Tr KV
  S : KS
  ls : List Nat
  le : List Nat
def exT (n0 : Nat) : XT → Tr KV → KS → Option AO
  | .done, F, S => some ⟨F, S, [], []⟩
  | .alt a b, F, S => (match exT n0 a F S, exT n0 b F S with
    | some x, some y => (match fAll x.F y.F (x.ls ++ y.ls), tAll x.S.T y.S.T (x.le ++ y.le) with
      | true, true => some ⟨x.F, x.S, x.ls ++ y.ls, x.le ++ y.le⟩
      | _, _ => none)
    | _, _ => none)
  | .seq ⟨dst, g, i⟩ k t, F, S => match i with
    | .still d x => (match gd F g with
      | some true => (match kx C.G C.ct F S x with
        | some (kv, _) => (match kEqv S.T kv (fg F d) with | true => exT n0 t F S | false => none)
        | none => none)
      | some false => exT n0 t F S
      | none => none)
    | .k x => (match gd F g with
      | some true => (match touch (n0 + k) F x, kx C.G C.ct F ⟨S.T, n0 + k⟩ x with
        | some l, some (kv, S') => (match putF F dst kv with
          | some F' => (match exT n0 t F' ⟨S'.T, S.n⟩ with | some r => some ⟨r.F, r.S, dsts dst r.ls, l ++ r.le⟩ | none => none)
          | none => none)
        | _, _ => none)
      | some false => (match putF F dst (.t []) with
        | some F' => (match exT n0 t F' S with | some r => some ⟨r.F, r.S, dsts dst r.ls, r.le⟩ | none => none)
        | none => none)
      | none => none)
    | .call f args => (match gd F g, findM C.memo f (evL F args) with
      | some true, some rs => (match noRow rs, memoL S rs with
        | true, some (ks, _) => (match putF F dst (tupK ks) with
          | some F' => (match exT n0 t F' S with | some r => some ⟨r.F, r.S, dsts dst r.ls, r.le⟩ | none => none)
          | none => none)
        | _, _ => none)
      | _, _ => none)
    | _ => none
def rngF (nt : Nat) (g : Operand) (ps : List Nat) (as bd : XC) (k : List KI) (F : Tr KV) (S : KS) (mk : List Nat) : Option Out :=
  match ev F g with
  | .f (.func gf) [] caps => (match newE S .df with
    | some (d, S1) => (match newE S1 (.lp nt F ps as bd .ready none) with
      | some (i, S2) => (match callF C ih gf (.y i :: caps) S2 with
        | some (_, S3) => (match S3.T.get i with
          | some (.lp nt' F' ps' as' bd' .ready none) => (match setE S3 i (.lp nt' F' ps' as' bd' .exhausted none) with
            | some S4 => ih nt k F S4 (some (d :: mk))
            | none => none)
          | some (.lp nt' F' ps' as' bd' .done (some j)) => (match setE S3 i (.lp nt' F' ps' as' bd' .exhausted (some j)) with
            | some S4 => ih nt (.c j.xc :: k) F S4 (some (d :: mk))
            | none => none)
          | _ => none)
        | none => none)
      | none => none)
    | none => none)
  | _ => none
def step : Rn
  | _, [], F, S, mk => some ⟨.nrm, F, S, mk⟩
  | nt, .b _ :: k, F, S, mk => ih nt k F S mk
  | nt, .l x :: k, F, S, mk => ih nt (.c (.loop x) :: k) F S mk
  | nt, .c .skip :: k, F, S, mk => ih nt k F S mk
  | nt, .c .lab :: k, F, S, mk => ih nt k F S mk
  | nt, .c (.scp a) :: k, F, S, mk => ih nt (.c a :: k) F S mk
  | nt, .c (.alt m t) :: k, F, S, mk => (match exT C S.n t F ⟨S.T, S.n + m⟩ with | some r => ih nt k r.F r.S mk | none => none)
  | nt, .c (.ops l) :: k, F, S, mk => exOps C ih l F S fun F S => ih nt k F S mk
  | nt, .c (.seq a b) :: k, F, S, mk => ih nt (.c a :: .c b :: k) F S mk
  | nt, .c (.cond c a b) :: k, F, S, mk => match kb (ev F c) with
    | some true => ih nt (.c a :: k) F S mk
    | some false => ih nt (.c b :: k) F S mk
    | none => none
  | nt, .c (.blk id a) :: k, F, S, mk => ih nt (.c a :: .b id :: k) F S mk
  | nt, .c (.loop a) :: k, F, S, mk => ih nt (.c a :: .l a :: k) F S mk
  | nt, .c (.exit id) :: k, F, S, mk => match popTo id k with
    | some k' => ih nt k' F S mk
    | none => some ⟨.exit id, F, S, mk⟩
  | _, .c .ret :: _, F, S, mk => some ⟨.ret, F, S, mk⟩
  | _, .c (.ref _) :: _, _, _, _ => none
  | nt, .c (.rng g ps as bd) :: k, F, S, some mk => rngF C ih nt g ps as bd k F S mk
  | _, .c (.rng _ _ _ _) :: _, _, _, none => none
end
def run (C : Cfg) (n : Nat) : Rn := Nat.rec (fun _ _ _ _ _ => none) (fun _ ih => step C ih) n
theorem run_zero (C : Cfg) (nt : Nat) (k : List KI) (F : Tr KV) (S : KS) (mk : Option (List Nat)) : run C 0 nt k F S mk = none := rfl
theorem run_succ (C : Cfg) (n : Nat) : run C (n + 1) = step C (run C n) := rfl

inductive KJ where
  | c (x : XC)
  | b (id : Nat)
  | l (I : Act → World → Prop)
def den (r : Option Nat) (P : Program) (nt : Nat) (Q : Post) : List KJ → Post
  | [] => Q
  | .c x :: k => Exit.then (fun a W => ∀ c', cmp P theOrder nt c' = some x → c'.wpIn (WF r) 0 P (den r P nt Q k) a W) (den r P nt Q k)
  | .b id :: k => Exit.inBlock id (den r P nt Q k)
  | .l I :: k => Exit.then I (den r P nt Q k)

def Quiet (Q : Post) : Prop := NoPanic Q ∧ ∀ l a w, ¬ Q (.goto l) a w
theorem den_quiet {r : Option Nat} {P : Program} {nt : Nat} {Q : Post} (h : Quiet Q) : ∀ k, Quiet (den r P nt Q k)
  | [] => h
  | .c _ :: k => ⟨fun c a w q => (den_quiet h k).1 c a w q, fun l a w q => (den_quiet h k).2 l a w q⟩
  | .b _ :: k => ⟨fun c a w q => (den_quiet h k).1 c a w q, fun l a w q => (den_quiet h k).2 l a w q⟩
  | .l _ :: k => ⟨fun c a w q => (den_quiet h k).1 c a w q, fun l a w q => (den_quiet h k).2 l a w q⟩

def OE.at : OE → Exit
  | .nrm => .normal
  | .ret => .ret
  | .exit id => .exit id

def Match (Z : Nat → List KI → (Act → World → Prop) → Prop) : List KI → List KJ → Prop
  | [], [] => True
  | .c x :: k, .c y :: k' => x = y ∧ Match Z k k'
  | .b i :: k, .b j :: k' => i = j ∧ Match Z k k'
  | .l x :: k, .l I :: k' => (∀ m, Z m (.c (.loop x) :: k) I) ∧ Match Z k k'
  | _, _ => False
theorem Match.mono {Z Z' : Nat → List KI → (Act → World → Prop) → Prop} (hz : ∀ m k I, Z m k I → Z' m k I) : ∀ {k : List KI} {k' : List KJ}, Match Z k k' → Match Z' k k'
  | [], [], _ => trivial
  | .c _ :: _, .c _ :: _, h => ⟨h.1, Match.mono hz h.2⟩
  | .b _ :: _, .b _ :: _, h => ⟨h.1, Match.mono hz h.2⟩
  | .l _ :: _, .l _ :: _, h => ⟨fun m => hz _ _ _ (h.1 m), Match.mono hz h.2⟩
  | [], _ :: _, h => h.elim
  | .c _ :: _, [], h => h.elim
  | .c _ :: _, .b _ :: _, h => h.elim
  | .c _ :: _, .l _ :: _, h => h.elim
  | .b _ :: _, [], h => h.elim
  | .b _ :: _, .c _ :: _, h => h.elim
  | .b _ :: _, .l _ :: _, h => h.elim
  | .l _ :: _, [], h => h.elim
  | .l _ :: _, .c _ :: _, h => h.elim
  | .l _ :: _, .b _ :: _, h => h.elim

section
variable {r : Option Nat} {P : Program} {nt : Nat} {Q : Post} {a : Act} {W : World} {Z : Nat → List KI → (Act → World → Prop) → Prop}
theorem den_ret : ∀ k : List KJ, Q .ret a W → den r P nt Q k .ret a W
  | [], h => h
  | .c _ :: k, h => den_ret k h
  | .b _ :: k, h => den_ret k h
  | .l _ :: k, h => den_ret k h
theorem den_exit {id : Nat} : ∀ (k : List KI) (k' : List KJ) {k2 : List KI}, popTo id k = some k2 → Match Z k k' → ∃ k2', Match Z k2 k2' ∧ (den r P nt Q k2' .normal a W → den r P nt Q k' (.exit id) a W)
  | [], _, _, h, _ => by simp [popTo] at h
  | .b j :: k, .b i :: k', k2, h, m => by
    obtain ⟨rfl, m⟩ := m
    simp only [popTo] at h
    split at h
    · rename_i hb
      have := Nat.eq_of_beq_eq_true hb; subst this
      injection h with h; subst h
      refine ⟨k', m, fun hq => ?_⟩
      show Exit.inBlock _ (den r P nt Q k') (.exit _) a W
      simp only [Exit.inBlock]; rw [if_pos trivial]; exact hq
    · rename_i hb
      have hne := Nat.ne_of_beq_eq_false hb
      obtain ⟨k2', m2, g⟩ := den_exit k k' h m
      refine ⟨k2', m2, fun hq => ?_⟩
      show Exit.inBlock _ (den r P nt Q k') (.exit _) a W
      simp only [Exit.inBlock]; rw [if_neg (fun e => hne e.symm)]; exact g hq
  | .c _ :: k, .c _ :: k', k2, h, m => den_exit k k' h m.2
  | .l _ :: k, .l _ :: k', k2, h, m => den_exit k k' h m.2
  | .b _ :: _, [], _, _, m => m.elim
  | .b _ :: _, .c _ :: _, _, _, m => m.elim
  | .b _ :: _, .l _ :: _, _, _, m => m.elim
  | .c _ :: _, [], _, _, m => m.elim
  | .c _ :: _, .b _ :: _, _, _, m => m.elim
  | .c _ :: _, .l _ :: _, _, _, m => m.elim
  | .l _ :: _, [], _, _, m => m.elim
  | .l _ :: _, .c _ :: _, _, _, m => m.elim
  | .l _ :: _, .b _ :: _, _, _, m => m.elim
theorem den_exit_none {id : Nat} : ∀ (k : List KI) (k' : List KJ), popTo id k = none → Match Z k k' → Q (.exit id) a W → den r P nt Q k' (.exit id) a W
  | [], [], _, _, hq => hq
  | .b j :: k, .b i :: k', h, m, hq => by
    obtain ⟨rfl, m⟩ := m
    simp only [popTo] at h
    split at h
    · cases h
    · rename_i hb
      have hne := Nat.ne_of_beq_eq_false hb
      show Exit.inBlock _ (den r P nt Q k') (.exit _) a W
      simp only [Exit.inBlock]; rw [if_neg (fun e => hne e.symm)]; exact den_exit_none k k' h m hq
  | .c _ :: k, .c _ :: k', h, m, hq => den_exit_none k k' h m.2 hq
  | .l _ :: k, .l _ :: k', h, m, hq => den_exit_none k k' h m.2 hq
  | [], _ :: _, _, m, _ => m.elim
  | .b _ :: _, [], _, m, _ => m.elim
  | .b _ :: _, .c _ :: _, _, m, _ => m.elim
  | .b _ :: _, .l _ :: _, _, m, _ => m.elim
  | .c _ :: _, [], _, m, _ => m.elim
  | .c _ :: _, .b _ :: _, _, m, _ => m.elim
  | .c _ :: _, .l _ :: _, _, m, _ => m.elim
  | .l _ :: _, [], _, m, _ => m.elim
  | .l _ :: _, .c _ :: _, _, m, _ => m.elim
  | .l _ :: _, .b _ :: _, _, m, _ => m.elim

theorem wpIn_loop_fam {c : Code} {F : Fence} {n : Nat} {α : Type} (M : α → Act → World → Prop) (μ : α → Nat) (start : ∃ x, M x a W)
    (round : ∀ x a W, M x a W → c.wpIn F n P (Exit.then (fun a' W' => ∃ y, M y a' W' ∧ μ y < μ x) Q) a W) : (Code.loop c).wpIn F n P Q a W := by
  have least : ∀ a W, (∃ x, M x a W) → ∃ n, (∃ x, M x a W ∧ μ x = n) ∧ ∀ x, M x a W → n ≤ μ x := by
    intro a W ⟨x, hx⟩
    have key : ∀ n x, M x a W → μ x = n → ∃ n, (∃ x, M x a W ∧ μ x = n) ∧ ∀ x, M x a W → n ≤ μ x := by
      intro n
      induction n using Nat.strongRecOn with
      | _ n ih =>
        intro x hx hn
        rcases Classical.em (∃ y, M y a W ∧ μ y < n) with ⟨y, hy, hlt⟩ | hno
        · exact ih (μ y) hlt y hy rfl
        · exact ⟨n, ⟨x, hx, hn⟩, fun y hy => Nat.le_of_not_lt fun hlt => hno ⟨y, hy, hlt⟩⟩
    exact key _ x hx rfl
  let m : Act → World → Nat := fun a W => Classical.epsilon fun n => (∃ x, M x a W ∧ μ x = n) ∧ ∀ x, M x a W → n ≤ μ x
  have hm : ∀ a W, (∃ x, M x a W) → (∃ x, M x a W ∧ μ x = m a W) ∧ ∀ x, M x a W → m a W ≤ μ x := fun a W h => Classical.epsilon_spec (least a W h)
  refine wpIn_loop (fun a W => ∃ x, M x a W) m start fun a W hI => ?_
  obtain ⟨⟨x, hx, hμ⟩, _⟩ := hm a W hI
  refine wpIn_mono (round x a W hx) fun e a' W' hq => ?_
  cases e with
  | normal =>
    obtain ⟨y, hy, hlt⟩ := hq
    refine ⟨⟨y, hy⟩, ?_⟩
    have := (hm a' W' ⟨y, hy⟩).2 y hy
    omega
  | _ => exact hq
end
end Go.Kx
