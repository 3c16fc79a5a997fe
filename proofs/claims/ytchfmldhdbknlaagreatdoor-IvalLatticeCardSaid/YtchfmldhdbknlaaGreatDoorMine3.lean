/- The engine and the contracts on which the statement stands: no conditions of its own. -/
import Derived.Test.YtchfmldhdbknlaaGreatDoorMine2
set_option linter.unusedSimpArgs false
set_option linter.unusedVariables false
set_option linter.unusedSectionVars false
namespace Go.Eng
def impL:List Nat:=[52,53,54,56,57,58,62,73,74,75,77,86,89,90,201,202,204,205,210,212,217,218,223,224,249,263,267,268,269,284,318,419,463,473]
noncomputable def E0:PEnv:={ prog:=prog,pure:=fun f => !(impL.contains f),glob:=globG,orc:=orcP,ovr:=ovrP }
@[go_sem] theorem zuC (a:List PV) (M:PM):pcl E0 6 a M=pclA E0 6 M (fzL (fz M fzD) a):=zab a M rfl
@[go_sem] theorem zuD (a:List PV) (M:PM):pcl E0 8 a M=pclA E0 8 M (fzL (fz M fzD) a):=zab a M rfl
@[go_sem] theorem zuE (a:List PV) (M:PM):pcl E0 9 a M=pclA E0 9 M (fzL (fz M fzD) a):=zab a M rfl
@[go_sem] theorem ztd (a:List PV) (M:PM):pcl E0 11 a M=pclA E0 11 M (fzL (fz M fzD) a):=zab a M rfl
@[go_sem] theorem zte (a:List PV) (M:PM):pcl E0 13 a M=pclA E0 13 M (fzL (fz M fzD) a):=zab a M rfl
@[go_sem] theorem ztf (a:List PV) (M:PM):pcl E0 16 a M=pclA E0 16 M (fzL (fz M fzD) a):=zab a M rfl
@[go_sem] theorem ztg (a:List PV) (M:PM):pcl E0 17 a M=pclA E0 17 M (fzL (fz M fzD) a):=zab a M rfl
@[go_sem] theorem zth (a:List PV) (M:PM):pcl E0 18 a M=pclA E0 18 M (fzL (fz M fzD) a):=zab a M rfl
@[go_sem] theorem zti (a:List PV) (M:PM):pcl E0 19 a M=pclA E0 19 M (fzL (fz M fzD) a):=zab a M rfl
@[go_sem] theorem ztj (a:List PV) (M:PM):pcl E0 20 a M=pclA E0 20 M (fzL (fz M fzD) a):=zab a M rfl
@[go_sem] theorem ztk (a:List PV) (M:PM):pcl E0 21 a M=pclA E0 21 M (fzL (fz M fzD) a):=zab a M rfl
@[go_sem] theorem ztl (a:List PV) (M:PM):pcl E0 22 a M=pclA E0 22 M (fzL (fz M fzD) a):=zab a M rfl
@[go_sem] theorem ztm (a:List PV) (M:PM):pcl E0 23 a M=pclA E0 23 M (fzL (fz M fzD) a):=zab a M rfl
@[go_sem] theorem ztn (a:List PV) (M:PM):pcl E0 24 a M=pclA E0 24 M (fzL (fz M fzD) a):=zab a M rfl
@[go_sem] theorem zto (a:List PV) (M:PM):pcl E0 29 a M=pclA E0 29 M (fzL (fz M fzD) a):=zab a M rfl
@[go_sem] theorem ztp (a:List PV) (M:PM):pcl E0 30 a M=pclA E0 30 M (fzL (fz M fzD) a):=zab a M rfl
@[go_sem] theorem ztq (a:List PV) (M:PM):pcl E0 31 a M=pclA E0 31 M (fzL (fz M fzD) a):=zab a M rfl
@[go_sem] theorem ztr (a:List PV) (M:PM):pcl E0 33 a M=pclA E0 33 M (fzL (fz M fzD) a):=zab a M rfl
@[go_sem] theorem zts (a:List PV) (M:PM):pcl E0 34 a M=pclA E0 34 M (fzL (fz M fzD) a):=zab a M rfl
@[go_sem] theorem ztt (a:List PV) (M:PM):pcl E0 35 a M=pclA E0 35 M (fzL (fz M fzD) a):=zab a M rfl
@[go_sem] theorem ztu (a:List PV) (M:PM):pcl E0 36 a M=pclA E0 36 M (fzL (fz M fzD) a):=zab a M rfl
@[go_sem] theorem ztv (a:List PV) (M:PM):pcl E0 37 a M=pclA E0 37 M (fzL (fz M fzD) a):=zab a M rfl
@[go_sem] theorem ztw (a:List PV) (M:PM):pcl E0 38 a M=pclA E0 38 M (fzL (fz M fzD) a):=zab a M rfl
@[go_sem] theorem ztx (a:List PV) (M:PM):pcl E0 39 a M=pclA E0 39 M (fzL (fz M fzD) a):=zab a M rfl
@[go_sem] theorem zty (a:List PV) (M:PM):pcl E0 40 a M=pclA E0 40 M (fzL (fz M fzD) a):=zab a M rfl
@[go_sem] theorem ztz (a:List PV) (M:PM):pcl E0 41 a M=pclA E0 41 M (fzL (fz M fzD) a):=zab a M rfl
@[go_sem] theorem ztA (a:List PV) (M:PM):pcl E0 42 a M=pclA E0 42 M (fzL (fz M fzD) a):=zab a M rfl
@[go_sem] theorem ztB (a:List PV) (M:PM):pcl E0 43 a M=pclA E0 43 M (fzL (fz M fzD) a):=zab a M rfl
@[go_sem] theorem ztC (a:List PV) (M:PM):pcl E0 48 a M=pclA E0 48 M (fzL (fz M fzD) a):=zab a M rfl
@[go_sem] theorem ztD (a:List PV) (M:PM):pcl E0 49 a M=pclA E0 49 M (fzL (fz M fzD) a):=zab a M rfl
@[go_sem] theorem ztE (a:List PV) (M:PM):pcl E0 55 a M=pclA E0 55 M (fzL (fz M fzD) a):=zab a M rfl
@[go_sem] theorem ztF (a:List PV) (M:PM):pcl E0 59 a M=pclA E0 59 M (fzL (fz M fzD) a):=zab a M rfl
@[go_sem] theorem ztG (a:List PV) (M:PM):pcl E0 60 a M=pclA E0 60 M (fzL (fz M fzD) a):=zab a M rfl
@[go_sem] theorem ztH (a:List PV) (M:PM):pcl E0 61 a M=pclA E0 61 M (fzL (fz M fzD) a):=zab a M rfl
@[go_sem] theorem ztI (a:List PV) (M:PM):pcl E0 64 a M=pclA E0 64 M (fzL (fz M fzD) a):=zab a M rfl
@[go_sem] theorem ztJ (a:List PV) (M:PM):pcl E0 65 a M=pclA E0 65 M (fzL (fz M fzD) a):=zab a M rfl
@[go_sem] theorem ztK (a:List PV) (M:PM):pcl E0 67 a M=pclA E0 67 M (fzL (fz M fzD) a):=zab a M rfl
@[go_sem] theorem ztL (a:List PV) (M:PM):pcl E0 76 a M=pclA E0 76 M (fzL (fz M fzD) a):=zab a M rfl
@[go_sem] theorem ztM (a:List PV) (M:PM):pcl E0 78 a M=pclA E0 78 M (fzL (fz M fzD) a):=zab a M rfl
@[go_sem] theorem ztN (a:List PV) (M:PM):pcl E0 79 a M=pclA E0 79 M (fzL (fz M fzD) a):=zab a M rfl
@[go_sem] theorem ztO (a:List PV) (M:PM):pcl E0 81 a M=pclA E0 81 M (fzL (fz M fzD) a):=zab a M rfl
@[go_sem] theorem ztP (a:List PV) (M:PM):pcl E0 85 a M=pclA E0 85 M (fzL (fz M fzD) a):=zab a M rfl
@[go_sem] theorem zqM (a:List PV) (M:PM):pcl E0 107 a M=pclA E0 107 M (fzL (fz M fzD) a):=zab a M rfl
@[go_sem] theorem zqN (a:List PV) (M:PM):pcl E0 110 a M=pclA E0 110 M (fzL (fz M fzD) a):=zab a M rfl
@[go_sem] theorem zqO (a:List PV) (M:PM):pcl E0 114 a M=pclA E0 114 M (fzL (fz M fzD) a):=zab a M rfl
@[go_sem] theorem zqP (a:List PV) (M:PM):pcl E0 118 a M=pclA E0 118 M (fzL (fz M fzD) a):=zab a M rfl
@[go_sem] theorem zqQ (a:List PV) (M:PM):pcl E0 119 a M=pclA E0 119 M (fzL (fz M fzD) a):=zab a M rfl
@[go_sem] theorem zqR (a:List PV) (M:PM):pcl E0 120 a M=pclA E0 120 M (fzL (fz M fzD) a):=zab a M rfl
@[go_sem] theorem zqS (a:List PV) (M:PM):pcl E0 121 a M=pclA E0 121 M (fzL (fz M fzD) a):=zab a M rfl
@[go_sem] theorem zqT (a:List PV) (M:PM):pcl E0 122 a M=pclA E0 122 M (fzL (fz M fzD) a):=zab a M rfl
@[go_sem] theorem zqU (a:List PV) (M:PM):pcl E0 123 a M=pclA E0 123 M (fzL (fz M fzD) a):=zab a M rfl
@[go_sem] theorem zqV (a:List PV) (M:PM):pcl E0 124 a M=pclA E0 124 M (fzL (fz M fzD) a):=zab a M rfl
@[go_sem] theorem zqW (a:List PV) (M:PM):pcl E0 125 a M=pclA E0 125 M (fzL (fz M fzD) a):=zab a M rfl
@[go_sem] theorem zqX (a:List PV) (M:PM):pcl E0 127 a M=pclA E0 127 M (fzL (fz M fzD) a):=zab a M rfl
@[go_sem] theorem zqY (a:List PV) (M:PM):pcl E0 128 a M=pclA E0 128 M (fzL (fz M fzD) a):=zab a M rfl
@[go_sem] theorem zqZ (a:List PV) (M:PM):pcl E0 129 a M=pclA E0 129 M (fzL (fz M fzD) a):=zab a M rfl
@[go_sem] theorem zq0 (a:List PV) (M:PM):pcl E0 130 a M=pclA E0 130 M (fzL (fz M fzD) a):=zab a M rfl
@[go_sem] theorem zq1 (a:List PV) (M:PM):pcl E0 131 a M=pclA E0 131 M (fzL (fz M fzD) a):=zab a M rfl
@[go_sem] theorem zq2 (a:List PV) (M:PM):pcl E0 132 a M=pclA E0 132 M (fzL (fz M fzD) a):=zab a M rfl
@[go_sem] theorem zq3 (a:List PV) (M:PM):pcl E0 133 a M=pclA E0 133 M (fzL (fz M fzD) a):=zab a M rfl
@[go_sem] theorem zq4 (a:List PV) (M:PM):pcl E0 134 a M=pclA E0 134 M (fzL (fz M fzD) a):=zab a M rfl
@[go_sem] theorem zq5 (a:List PV) (M:PM):pcl E0 135 a M=pclA E0 135 M (fzL (fz M fzD) a):=zab a M rfl
@[go_sem] theorem zq6 (a:List PV) (M:PM):pcl E0 136 a M=pclA E0 136 M (fzL (fz M fzD) a):=zab a M rfl
@[go_sem] theorem zq7 (a:List PV) (M:PM):pcl E0 137 a M=pclA E0 137 M (fzL (fz M fzD) a):=zab a M rfl
@[go_sem] theorem zq8 (a:List PV) (M:PM):pcl E0 147 a M=pclA E0 147 M (fzL (fz M fzD) a):=zab a M rfl
@[go_sem] theorem zq9 (a:List PV) (M:PM):pcl E0 148 a M=pclA E0 148 M (fzL (fz M fzD) a):=zab a M rfl
@[go_sem] theorem zra (a:List PV) (M:PM):pcl E0 149 a M=pclA E0 149 M (fzL (fz M fzD) a):=zab a M rfl
@[go_sem] theorem zrb (a:List PV) (M:PM):pcl E0 159 a M=pclA E0 159 M (fzL (fz M fzD) a):=zab a M rfl
@[go_sem] theorem zrc (a:List PV) (M:PM):pcl E0 179 a M=pclA E0 179 M (fzL (fz M fzD) a):=zab a M rfl
@[go_sem] theorem zrd (a:List PV) (M:PM):pcl E0 180 a M=pclA E0 180 M (fzL (fz M fzD) a):=zab a M rfl
@[go_sem] theorem zre (a:List PV) (M:PM):pcl E0 182 a M=pclA E0 182 M (fzL (fz M fzD) a):=zab a M rfl
@[go_sem] theorem zrf (a:List PV) (M:PM):pcl E0 185 a M=pclA E0 185 M (fzL (fz M fzD) a):=zab a M rfl
@[go_sem] theorem zrg (a:List PV) (M:PM):pcl E0 187 a M=pclA E0 187 M (fzL (fz M fzD) a):=zab a M rfl
@[go_sem] theorem zrh (a:List PV) (M:PM):pcl E0 188 a M=pclA E0 188 M (fzL (fz M fzD) a):=zab a M rfl
@[go_sem] theorem zri (a:List PV) (M:PM):pcl E0 196 a M=pclA E0 196 M (fzL (fz M fzD) a):=zab a M rfl
@[go_sem] theorem zrj (a:List PV) (M:PM):pcl E0 197 a M=pclA E0 197 M (fzL (fz M fzD) a):=zab a M rfl
@[go_sem] theorem zrk (a:List PV) (M:PM):pcl E0 200 a M=pclA E0 200 M (fzL (fz M fzD) a):=zab a M rfl
@[go_sem] theorem zrl (a:List PV) (M:PM):pcl E0 209 a M=pclA E0 209 M (fzL (fz M fzD) a):=zab a M rfl
@[go_sem] theorem zrm (a:List PV) (M:PM):pcl E0 216 a M=pclA E0 216 M (fzL (fz M fzD) a):=zab a M rfl
@[go_sem] theorem zrn (a:List PV) (M:PM):pcl E0 222 a M=pclA E0 222 M (fzL (fz M fzD) a):=zab a M rfl
@[go_sem] theorem zro (a:List PV) (M:PM):pcl E0 260 a M=pclA E0 260 M (fzL (fz M fzD) a):=zab a M rfl
@[go_sem] theorem zrp (a:List PV) (M:PM):pcl E0 278 a M=pclA E0 278 M (fzL (fz M fzD) a):=zab a M rfl
@[go_sem] theorem zrq (a:List PV) (M:PM):pcl E0 280 a M=pclA E0 280 M (fzL (fz M fzD) a):=zab a M rfl
@[go_sem] theorem zrr (a:List PV) (M:PM):pcl E0 281 a M=pclA E0 281 M (fzL (fz M fzD) a):=zab a M rfl
@[go_sem] theorem zrs (a:List PV) (M:PM):pcl E0 289 a M=pclA E0 289 M (fzL (fz M fzD) a):=zab a M rfl
@[go_sem] theorem zrt (a:List PV) (M:PM):pcl E0 290 a M=pclA E0 290 M (fzL (fz M fzD) a):=zab a M rfl
@[go_sem] theorem zru (a:List PV) (M:PM):pcl E0 291 a M=pclA E0 291 M (fzL (fz M fzD) a):=zab a M rfl
@[go_sem] theorem zrv (a:List PV) (M:PM):pcl E0 292 a M=pclA E0 292 M (fzL (fz M fzD) a):=zab a M rfl
@[go_sem] theorem zrw (a:List PV) (M:PM):pcl E0 293 a M=pclA E0 293 M (fzL (fz M fzD) a):=zab a M rfl
@[go_sem] theorem zrx (a:List PV) (M:PM):pcl E0 294 a M=pclA E0 294 M (fzL (fz M fzD) a):=zab a M rfl
@[go_sem] theorem zry (a:List PV) (M:PM):pcl E0 295 a M=pclA E0 295 M (fzL (fz M fzD) a):=zab a M rfl
@[go_sem] theorem zrz (a:List PV) (M:PM):pcl E0 296 a M=pclA E0 296 M (fzL (fz M fzD) a):=zab a M rfl
@[go_sem] theorem zrA (a:List PV) (M:PM):pcl E0 297 a M=pclA E0 297 M (fzL (fz M fzD) a):=zab a M rfl
@[go_sem] theorem zrB (a:List PV) (M:PM):pcl E0 298 a M=pclA E0 298 M (fzL (fz M fzD) a):=zab a M rfl
@[go_sem] theorem zrC (a:List PV) (M:PM):pcl E0 299 a M=pclA E0 299 M (fzL (fz M fzD) a):=zab a M rfl
@[go_sem] theorem zrD (a:List PV) (M:PM):pcl E0 344 a M=pclA E0 344 M (fzL (fz M fzD) a):=zab a M rfl
@[go_sem] theorem zrE (a:List PV) (M:PM):pcl E0 345 a M=pclA E0 345 M (fzL (fz M fzD) a):=zab a M rfl
@[go_sem] theorem zrF (a:List PV) (M:PM):pcl E0 348 a M=pclA E0 348 M (fzL (fz M fzD) a):=zab a M rfl
@[go_sem] theorem zrG (a:List PV) (M:PM):pcl E0 349 a M=pclA E0 349 M (fzL (fz M fzD) a):=zab a M rfl
@[go_sem] theorem zrH (a:List PV) (M:PM):pcl E0 350 a M=pclA E0 350 M (fzL (fz M fzD) a):=zab a M rfl
@[go_sem] theorem zrI (a:List PV) (M:PM):pcl E0 361 a M=pclA E0 361 M (fzL (fz M fzD) a):=zab a M rfl
@[go_sem] theorem zrJ (a:List PV) (M:PM):pcl E0 362 a M=pclA E0 362 M (fzL (fz M fzD) a):=zab a M rfl
@[go_sem] theorem zrK (a:List PV) (M:PM):pcl E0 363 a M=pclA E0 363 M (fzL (fz M fzD) a):=zab a M rfl
@[go_sem] theorem zrL (a:List PV) (M:PM):pcl E0 364 a M=pclA E0 364 M (fzL (fz M fzD) a):=zab a M rfl
@[go_sem] theorem zrM (a:List PV) (M:PM):pcl E0 365 a M=pclA E0 365 M (fzL (fz M fzD) a):=zab a M rfl
@[go_sem] theorem zrN (a:List PV) (M:PM):pcl E0 367 a M=pclA E0 367 M (fzL (fz M fzD) a):=zab a M rfl
@[go_sem] theorem zrO (a:List PV) (M:PM):pcl E0 369 a M=pclA E0 369 M (fzL (fz M fzD) a):=zab a M rfl
@[go_sem] theorem zrP (a:List PV) (M:PM):pcl E0 371 a M=pclA E0 371 M (fzL (fz M fzD) a):=zab a M rfl
@[go_sem] theorem zrQ (a:List PV) (M:PM):pcl E0 373 a M=pclA E0 373 M (fzL (fz M fzD) a):=zab a M rfl
@[go_sem] theorem zrR (a:List PV) (M:PM):pcl E0 377 a M=pclA E0 377 M (fzL (fz M fzD) a):=zab a M rfl
@[go_sem] theorem zrS (a:List PV) (M:PM):pcl E0 378 a M=pclA E0 378 M (fzL (fz M fzD) a):=zab a M rfl
@[go_sem] theorem zrT (a:List PV) (M:PM):pcl E0 379 a M=pclA E0 379 M (fzL (fz M fzD) a):=zab a M rfl
@[go_sem] theorem zrU (a:List PV) (M:PM):pcl E0 380 a M=pclA E0 380 M (fzL (fz M fzD) a):=zab a M rfl
@[go_sem] theorem zrV (a:List PV) (M:PM):pcl E0 381 a M=pclA E0 381 M (fzL (fz M fzD) a):=zab a M rfl
@[go_sem] theorem zrW (a:List PV) (M:PM):pcl E0 382 a M=pclA E0 382 M (fzL (fz M fzD) a):=zab a M rfl
@[go_sem] theorem zrX (a:List PV) (M:PM):pcl E0 383 a M=pclA E0 383 M (fzL (fz M fzD) a):=zab a M rfl
@[go_sem] theorem zrY (a:List PV) (M:PM):pcl E0 385 a M=pclA E0 385 M (fzL (fz M fzD) a):=zab a M rfl
@[go_sem] theorem zrZ (a:List PV) (M:PM):pcl E0 386 a M=pclA E0 386 M (fzL (fz M fzD) a):=zab a M rfl
@[go_sem] theorem zr1 (a:List PV) (M:PM):pcl E0 387 a M=pclA E0 387 M (fzL (fz M fzD) a):=zab a M rfl
@[go_sem] theorem zr2 (a:List PV) (M:PM):pcl E0 415 a M=pclA E0 415 M (fzL (fz M fzD) a):=zab a M rfl
@[go_sem] theorem zr3 (a:List PV) (M:PM):pcl E0 446 a M=pclA E0 446 M (fzL (fz M fzD) a):=zab a M rfl
@[go_sem] theorem zr4 (a:List PV) (M:PM):pcl E0 500 a M=pclA E0 500 M (fzL (fz M fzD) a):=zab a M rfl
@[go_sem] theorem zr5 (a:List PV) (M:PM):pcl E0 501 a M=pclA E0 501 M (fzL (fz M fzD) a):=zab a M rfl
@[go_sem] theorem zr6 (a:List PV) (M:PM):pcl E0 502 a M=pclA E0 502 M (fzL (fz M fzD) a):=zab a M rfl
@[go_sem] theorem zr7 (a:List PV) (M:PM):pcl E0 503 a M=pclA E0 503 M (fzL (fz M fzD) a):=zab a M rfl
@[go_sem] theorem zr8 (a:List PV) (M:PM):pcl E0 504 a M=pclA E0 504 M (fzL (fz M fzD) a):=zab a M rfl
@[go_sem] theorem zr9 (a:List PV) (M:PM):pcl E0 505 a M=pclA E0 505 M (fzL (fz M fzD) a):=zab a M rfl
@[go_sem] theorem zsa (a:List PV) (M:PM):pcl E0 506 a M=pclA E0 506 M (fzL (fz M fzD) a):=zab a M rfl
@[go_sem] theorem zsb (a:List PV) (M:PM):pcl E0 508 a M=pclA E0 508 M (fzL (fz M fzD) a):=zab a M rfl
@[go_sem] theorem zsc (a:List PV) (M:PM):pcl E0 509 a M=pclA E0 509 M (fzL (fz M fzD) a):=zab a M rfl
@[go_sem] theorem zsd (a:List PV) (M:PM):pcl E0 510 a M=pclA E0 510 M (fzL (fz M fzD) a):=zab a M rfl
@[go_sem] theorem zse (a:List PV) (M:PM):pcl E0 511 a M=pclA E0 511 M (fzL (fz M fzD) a):=zab a M rfl
@[go_sem] theorem zsf (a:List PV) (M:PM):pcl E0 512 a M=pclA E0 512 M (fzL (fz M fzD) a):=zab a M rfl
@[go_sem] theorem zsg (a:List PV) (M:PM):pcl E0 513 a M=pclA E0 513 M (fzL (fz M fzD) a):=zab a M rfl
@[go_sem] theorem zsh (a:List PV) (M:PM):pcl E0 514 a M=pclA E0 514 M (fzL (fz M fzD) a):=zab a M rfl
@[go_sem] theorem zsi (a:List PV) (M:PM):pcl E0 515 a M=pclA E0 515 M (fzL (fz M fzD) a):=zab a M rfl
@[go_sem] theorem zsj (a:List PV) (M:PM):pcl E0 516 a M=pclA E0 516 M (fzL (fz M fzD) a):=zab a M rfl
@[go_sem] theorem zsk (a:List PV) (M:PM):pcl E0 518 a M=pclA E0 518 M (fzL (fz M fzD) a):=zab a M rfl
@[go_sem] theorem zsl (a:List PV) (M:PM):pcl E0 519 a M=pclA E0 519 M (fzL (fz M fzD) a):=zab a M rfl
theorem zmF {a:List PV} {v:PV} (h:orcP 33 a []=some (v,[])) (hz:(fz [] fzD v).map Prod.fst=some v):pf E0 33 a=some v:=zdA (o:=orcA 33) rfl h hz
theorem zkp {a:List PV} {v:PV} (h:orcP 130 a []=some (v,[])) (hz:(fz [] fzD v).map Prod.fst=some v):pf E0 130 a=some v:=zdA (o:=orcA 130) rfl h hz
theorem zkq {a:List PV} {v:PV} (h:orcP 131 a []=some (v,[])) (hz:(fz [] fzD v).map Prod.fst=some v):pf E0 131 a=some v:=zdA (o:=orcA 131) rfl h hz
theorem zkr {a:List PV} {v:PV} (h:orcP 222 a []=some (v,[])) (hz:(fz [] fzD v).map Prod.fst=some v):pf E0 222 a=some v:=zdA (o:=orcA 222) rfl h hz
end Go.Eng
namespace Go.Eng
def Ok32 (xs:List Nat):Prop:=∀x∈xs,x<4294967296
theorem zkR:∃f:Nat→Nat→Nat,∀v i,f v i=v/4294967296^i%4294967296:=⟨fun v i=>v/4294967296^i%4294967296,fun _ _=>rfl⟩
noncomputable def dgt:Nat→Nat→Nat:=Classical.choose zkR
theorem zaf (v i:Nat):dgt v i=v/4294967296^i%4294967296:=Classical.choose_spec zkR v i
def tab {α:Type} (n:Nat) (f:Nat→α):List α:=(List.range n).map f
@[simp,go_sem] theorem zaX {α:Type} (n:Nat) (f:Nat→α):(tab n f).length=n:=by simp[tab]
theorem zaW {α:Type} (n:Nat) (f:Nat→α) (i:Nat):(tab n f)[i]?=if i<n then some (f i) else none:=by
 unfold tab
 rw[List.getElem?_map]
 split
 ·rename_i h;rw[List.getElem?_range h];rfl
 ·rename_i h;rw[List.getElem?_eq_none (by simp;omega)];rfl
theorem zaL {α:Type} {n:Nat} {f:Nat→α} {i:Nat} (h:i<n):(tab n f)[i]?=some (f i):=by rw[zaW,if_pos h]
theorem zar {α:Type} (n:Nat) (f:Nat→α) (i:Nat) (x:α):(tab n f).set i x=tab n fun k=>if k=i then x else f k:=by
 apply List.ext_getElem?
 intro k
 rw[List.getElem?_set,zaW,zaW]
 by_cases h:i=k
 ·subst h;simp
 ·simp only[h,if_false,show ¬k=i from fun e=>h e.symm]
theorem zae {α:Type} {n:Nat} {f g:Nat→α} (h:∀k,k<n→f k=g k):tab n f=tab n g:=by
 apply List.ext_getElem?
 intro k
 rw[zaW,zaW]
 split
 ·rename_i hk;rw[h k hk]
 ·rfl
theorem zmX {α β:Type} (n:Nat) (f:Nat→α) (g:α→β):(tab n f).map g=tab n fun k=>g (f k):=by simp[tab]
theorem zb7 {α:Type} (n:Nat) (x:α):List.replicate n x=tab n fun _=>x:=by
 apply List.ext_getElem?
 intro k
 rw[zaW,List.getElem?_replicate]
theorem zeO {α:Type} (n:Nat) (f:Nat→α) (k:Nat) (h:k≤n):(tab n f).take k=tab k f:=by
 apply List.ext_getElem?
 intro i
 rw[List.getElem?_take,zaW,zaW]
 by_cases h1:i<k
 ·rw[if_pos h1,if_pos (by omega),if_pos h1]
 ·rw[if_neg h1,if_neg h1]
theorem zkC {α:Type} (n:Nat) (f:Nat→α) (k:Nat):(tab n f).drop k=tab (n-k) fun i=>f (k+i):=by
 apply List.ext_getElem?
 intro i
 rw[List.getElem?_drop,zaW,zaW]
 by_cases h1:i<n-k
 ·rw[if_pos (by omega),if_pos h1]
 ·rw[if_neg (by omega),if_neg h1]
theorem tab_of {α:Type} (l:List α) (d:α):l=tab l.length fun k=>l.getD k d:=by
 apply List.ext_getElem?
 intro i
 rw[zaW]
 by_cases h:i<l.length
 ·rw[if_pos h];simp[List.getD,h]
 ·rw[if_neg h,List.getElem?_eq_none (by omega)]
noncomputable def dw (n v:Nat):List Nat:=tab n (dgt v)
theorem zbu (i:Nat):0<4294967296^i:=Nat.pow_pos (by decide)
theorem zas (v i:Nat):dgt v i<4294967296:=by rw[zaf];exact Nat.mod_lt _ (by decide)
theorem zc8 (i:Nat):dgt 0 i=0:=by simp[zaf]
theorem zg6 (v:Nat):dgt v 0=v%4294967296:=by simp[zaf]
theorem zf5 (v i:Nat):dgt v (i+1)=dgt (v/4294967296) i:=by
 rw[zaf,zaf,Nat.pow_succ,Nat.mul_comm,Nat.div_div_eq_div_mul]
theorem zaB (v i:Nat):v%4294967296^(i+1)=v%4294967296^i+4294967296^i*dgt v i:=by
 rw[zaf,Nat.pow_succ,Nat.mod_mul]
theorem zlx:∀{xs:List Nat},Ok32 xs→val xs<4294967296^xs.length
 | [],_=>by simp[val]
 | x::xs,h=>by
  have h1:=h x (List.mem_cons_self ..)
  have h2:=zlx (xs:=xs) fun y hy=>h y (List.mem_cons_of_mem _ hy)
  simp only[val,List.length_cons,Nat.pow_succ]
  omega
theorem zgW:∀{xs:List Nat},Ok32 xs→∀i,xs.getD i 0=dgt (val xs) i
 | [],_,i=>by simp[val,zc8,List.getD]
 | x::xs,h,0=>by
  have h1:=h x (List.mem_cons_self ..)
  simp[val,zg6,List.getD];omega
 | x::xs,h,i+1=>by
  have h1:=h x (List.mem_cons_self ..)
  have:=zgW (xs:=xs) (fun y hy=>h y (List.mem_cons_of_mem _ hy)) i
  have e:val (x::xs)/4294967296=val xs:=by simp only[val];omega
  rw[zf5,e,←this];simp[List.getD]
theorem znv {xs:List Nat} (h:Ok32 xs):xs=dw xs.length (val xs):=by
 have e:=tab_of xs 0
 have e2:tab xs.length (fun k=>xs.getD k 0)=dw xs.length (val xs):=zae fun k _=>zgW h k
 exact e.trans e2
theorem zqD (n v:Nat):Ok32 (dw n v):=fun x hx=>by
 unfold dw tab at hx
 obtain⟨i,_,rfl⟩:=List.mem_map.1 hx
 exact zas v i
theorem zlK (n v:Nat):dw (n+1) v=v%4294967296::dw n (v/4294967296):=by
 apply List.ext_getElem?
 intro k
 unfold dw
 cases k with
 | zero=>rw[zaL (by omega),zg6];rfl
 | succ k =>
  rw[List.getElem?_cons_succ,zaW,zaW,zf5]
  by_cases h:k<n
  ·rw[if_pos h,if_pos (by omega)]
  ·rw[if_neg h,if_neg (by omega)]
theorem zlw:∀(n v:Nat),val (dw n v)=v%4294967296^n
 | 0,v=>by
  have:dw 0 v=[]:=rfl
  simp[this,val,Nat.mod_one]
 | n+1,v=>by
  rw[zlK,val,zlw n,Nat.pow_succ,Nat.mul_comm (4294967296^n),Nat.mod_mul]
theorem zm2 {n v:Nat} (h:v<4294967296^n):val (dw n v)=v:=by rw[zlw,Nat.mod_eq_of_lt h]
@[simp,go_sem] theorem znu (n v:Nat):(dw n v).length=n:=by simp[dw]
def wlen (v:Nat):Nat:=if v=0 then 0 else Nat.log2 v/32+1
theorem zai (v:Nat):v<4294967296^wlen v:=by
 unfold wlen
 split
 ·rename_i h;subst h;decide
 ·rename_i h
  have h1:v<2^(Nat.log2 v+1):=Nat.lt_log2_self
  have h2:(4294967296:Nat)^(Nat.log2 v/32+1)=2^(32*(Nat.log2 v/32+1)):=by rw[Nat.pow_mul]
  rw[h2]
  exact Nat.lt_of_lt_of_le h1 (Nat.pow_le_pow_right (by decide) (by omega))
theorem zfW {v:Nat} (h:v≠0):4294967296^(wlen v-1)≤v:=by
 unfold wlen
 rw[if_neg h]
 have h1:2^Nat.log2 v≤v:=Nat.log2_self_le h
 have h2:(4294967296:Nat)^(Nat.log2 v/32+1-1)=2^(32*(Nat.log2 v/32)):=by rw[Nat.add_sub_cancel,Nat.pow_mul]
 rw[h2]
 exact Nat.le_trans (Nat.pow_le_pow_right (by decide) (by omega)) h1
theorem zaS {v n:Nat}:wlen v≤n↔v<4294967296^n:=by
 constructor
 ·intro h
  exact Nat.lt_of_lt_of_le (zai v) (Nat.pow_le_pow_right (by decide) h)
 ·intro h
  by_cases h0:v=0
  ·subst h0;simp[wlen]
  ·have h1:=zfW h0
   have h2:4294967296^(wlen v-1)<4294967296^n:=Nat.lt_of_le_of_lt h1 h
   have:=(Nat.pow_lt_pow_iff_right (by decide:1<4294967296)).1 h2
   omega
theorem zbE:wlen 0=0:=rfl
theorem zaT {v:Nat} (h:v≠0):0<wlen v:=by unfold wlen;rw[if_neg h];omega
noncomputable def dig (v:Nat):List Nat:=dw (wlen v) v
@[simp] theorem zdR (v:Nat):(dig v).length=wlen v:=by simp[dig]
theorem zm1 (v:Nat):val (dig v)=v:=zm2 (zai v)
theorem zn1 (v:Nat):Ok32 (dig v):=zqD _ _
def W (xs:List Nat):PV:=.lst (xs.map fun n=>(PV.i .u32 ((n:Nat):Int)))
noncomputable def Dw (n v:Nat):PV:=.lst (tab n fun k=>(PV.i .u32 ((dgt v k:Nat):Int)))
noncomputable abbrev D (v:Nat):PV:=Dw (wlen v) v
theorem zsQ (n v:Nat):W (dw n v)=Dw n v:=by simp[W,dw,Dw,zmX]
noncomputable def intP (z:Int):PV:=.ag [.b (decide (z<0)),D z.natAbs]
@[go_sem] theorem zur (M:PM) (d n v:Nat):fz M (d+1) (Dw n v)=some (Dw n v,[]):=_root_.id rfl
@[go_sem] theorem zpa (n v:Nat):(Dw n v).cells=[Dw n v]:=_root_.id rfl
@[go_sem] theorem zsr (n v:Nat):(Dw n v).scal=true:=_root_.id rfl
@[go_sem] theorem zqt (n v:Nat):lenP (Dw n v)=some (.i .i64 (n:Int)):=by simp[Dw,lenP]
theorem zaV {n v j:Nat} (h:j<n):idxP 1 (Dw n v) (some j)=some (.fp [(PV.i .u32 ((dgt v j:Nat):Int))]):=by
 rw[Dw,zer,zaL h];rfl
@[go_sem] theorem zqn (M:PM) (d n:Nat) (k:IntKind) (g:Nat→Int):fzL (fz M (d+1)) (tab n fun j=>PV.i k (g j))=some (tab n fun j=>PV.i k (g j),[]):=zjS M d _ (fun _=>rfl) _
@[go_sem] theorem zkD (n:Nat) (f:Nat→PV):(tab n f).take n=tab n f:=by
 have:=List.take_length (l:=tab n f)
 rwa [zaX] at this
@[go_sem] theorem znK (n:Nat) (f:Nat→PV):group 1 n (tab n f)=tab n f:=zcx n _ (by simp)
@[go_sem] theorem zqd (n v:Nat):PV.lst (tab n fun k=>PV.i .u32 ((dgt v k:Nat):Int))=Dw n v:=_root_.id rfl
end Go.Eng
namespace Go.Eng
def cmpI (a b:Int):Int:=if a<b then-1 else if b<a then 1 else 0
@[go_sem] theorem zos (a:Int):pf E0 79 [.i .u32 a]=some (.b false):=by
 refine zaa (xf:=zvy) rfl (by simp[zvy]) ?_
 simp only[zvy,go_sem,seval]
@[go_sem] theorem zot (a:Int):pf E0 78 [.i .i64 a]=some (.b false):=by
 refine zaa (xf:=zvL) rfl (by simp[zvL]) ?_
 simp only[zvL,go_sem,seval]
@[go_sem] theorem zqH (a b:Int):pf E0 61 [.i .u32 a,.i .u32 b]=some (.i .i64 (cmpI a b)):=by
 refine zaa (xf:=zvt) rfl (by simp[zvt]) ?_
 simp only[zvt,go_sem,seval]
 refine zcV (fun h=>?_) (fun h=>?_)
 ·simp only[go_sem,seval,cmpI,h]
 ·simp only[go_sem,seval]
  refine zcV (fun h2=>?_) (fun h2=>?_)
  ·simp only[go_sem,seval,cmpI,h,h2]
  ·simp only[go_sem,seval,cmpI,h,h2]
@[go_sem] theorem zqI (a b:Int):pf E0 60 [.i .i64 a,.i .i64 b]=some (.i .i64 (cmpI a b)):=by
 refine zaa (xf:=zvA) rfl (by simp[zvA]) ?_
 simp only[zvA,go_sem,seval]
 refine zcV (fun h=>?_) (fun h=>?_)
 ·simp only[go_sem,seval,cmpI,h]
 ·simp only[go_sem,seval]
  refine zcV (fun h2=>?_) (fun h2=>?_)
  ·simp only[go_sem,seval,cmpI,h,h2]
  ·simp only[go_sem,seval,cmpI,h,h2]
theorem zoO (n v k:Nat) (h:k≤n):slP 1 (Dw n v) none (some (.i .i64 (k:Int))) none=some (Dw k v):=by
 have hz:ez 1 (tab n fun k=>(PV.i .u32 ((dgt v k:Nat):Int)))=true:=by
  unfold ez tab
  simp[PV.cells]
 simp only[slP,Dw,Option.isSome_none,Bool.false_eq_true,if_false,optP,zaI,hz,zaX]
 rw[if_pos ⟨by omega,h,trivial⟩,List.drop_zero,zeO _ _ _ h]
theorem zfg {E:PEnv} (hE:E.prog 49=some (.fn zvN)) (n v:Nat) (hv:v<4294967296^n) (hn:n<1099511627776) (hO:E.ovr 49 [Dw n v]=none:=by rfl):pf E 49 [Dw n v]=some (D v):=by
 refine zaa (xf:=zvN) hE (by simp[zvN]) ?_ hO
 simp only[zvN]
 simp only[go_sem,seval]
 refine zan zxj.eq_1 (fun(m:Nat) fr M=>fr 0=Dw m v∧v<4294967296^m∧m≤n∧M=[]) id ?_ n ⟨by simp only[go_sem,seval],hv,Nat.le_refl _,rfl⟩
 rintro m fr M ⟨h0,h1,h2,rfl⟩ ih
 by_cases hm:m=0
 ·subst hm
  have hv0:v=0:=by simpa using h1
  subst hv0
  simp only[go_sem,seval,h0,Int.ofNat_lt,Nat.lt_irrefl,Int.natCast_zero,Int.lt_irrefl]
  rfl
 ·have hm':(0:Int)<(m:Int):=by omega
  simp(disch:=omega)only[go_sem,seval,wqq,h0,hm',zax,zaV]
  have e:v=v%4294967296^(m-1)+4294967296^(m-1)*dgt v (m-1):=by
   rw[←zaB,show m-1+1=m by omega,Nat.mod_eq_of_lt h1]
  refine zcV (fun h=>?_) (fun h=>?_)
  ·have hd:dgt v (m-1)=0:=by omega
   rw[hd,Nat.mul_zero,Nat.add_zero] at e
   simp(disch:=omega)only[go_sem,seval,wqq,h0,zax,zoO]
   exact ih (m-1) _ _ (by simp only[id];omega) ⟨by simp only[go_sem,seval],by rw[e];exact Nat.mod_lt _ (zbu _),by omega,rfl⟩
  ·have hd:dgt v (m-1)≠0:=by omega
   have hw:wlen v=m:=by
    have h3:wlen v≤m:=zaS.2 h1
    have h4:¬wlen v≤m-1:=fun q=>by
     have:=zaS.1 q
     apply hd
     rw[zaf,Nat.div_eq_of_lt this]
    omega
   simp only[go_sem,seval,h0]
   rw[D,hw]
theorem zkh (n v:Nat) (hv:v<4294967296^n) (hn:n<1099511627776):pf E0 49 [Dw n v]=some (D v):=zfg rfl n v hv hn
theorem zbA {n v:Nat} (hv:v<4294967296^n) (hn:n<1099511627776):pf E0 49 [Dw n v]=some (D v):=zkh n v hv hn
theorem zaO (a b:Int):(cmpI a b=0)=(a=b):=by
 unfold cmpI
 apply propext
 by_cases h:a<b
 ·simp[h];omega
 ·by_cases h2:b<a
  ·simp[h,h2];omega
  ·simp[h,h2];omega
theorem zf2 (a b c d:Nat) (h1:a<b↔c<d) (h2:b<a↔d<c):cmpI (a:Int) (b:Int)=cmpI (c:Int) (d:Int):=by
 have e1:((a:Int)<(b:Int))=((c:Int)<(d:Int)):=by rw[zbi,zbi];exact propext h1
 have e2:((b:Int)<(a:Int))=((d:Int)<(c:Int)):=by rw[zbi,zbi];exact propext h2
 unfold cmpI
 simp only[e1,e2]
theorem zcH {a b:Nat} (h:wlen a<wlen b):a<b:=by
 by_cases hab:a<b
 ·exact hab
 ·have h1:b<4294967296^wlen a:=Nat.lt_of_le_of_lt (by omega) (zai a)
  have:=zaS.2 h1
  omega
theorem zby (a b:Nat) (ha:wlen a<1099511627776) (hb:wlen b<1099511627776):pf E0 41 [D a,D b]=some (.i .i64 (cmpI a b)):=by
 refine zaa (xf:=zv1) rfl (by simp[zv1]) ?_
 simp only[zv1]
 simp only[go_sem,seval]
 refine zcV (fun h=>?_) (fun h=>?_)
 ·simp only[go_sem,seval]
  rw[zaO] at h
  congr 2
  refine zf2 _ _ _ _ ⟨fun q=>zcH q,fun q=>?_⟩ ⟨fun q=>zcH q,fun q=>?_⟩
  ·have:¬wlen b<wlen a:=fun z=>by have:=zcH z;omega
   omega
  ·have:¬wlen a<wlen b:=fun z=>by have:=zcH z;omega
   omega
 ·have hl:wlen a=wlen b:=by
   rw[zaO] at h;omega
  simp(disch:=omega)only[go_sem,seval,wqq]
  refine zan zxc.eq_1 (fun(m:Nat) fr M=>fr 0=D a∧fr 1=D b∧fr 6=.i .i64 ((m:Int)-1)∧a/4294967296^m=b/4294967296^m∧m≤wlen a∧M=[]) id ?_ (wlen a) ⟨by simp only[go_sem,seval],by simp only[go_sem,seval],by simp only[go_sem,seval],?_,Nat.le_refl _,rfl⟩
  ·rintro m fr M ⟨h0,h1,h6,hq,hm,rfl⟩ ih
   by_cases hm0:m=0
   ·subst hm0
    have hab:a=b:=by simpa using hq
    simp(disch:=omega)only[go_sem,seval,wqq,h6,Int.natCast_zero,Int.zero_sub,Int.reduceNeg,Int.reduceLE]
    subst hab
    simp[cmpI]
   ·have hm':(0:Int)≤(m:Int)-1:=by omega
    have ia:(D a)=Dw (wlen a) a:=rfl
    have ib:(D b)=Dw (wlen b) b:=rfl
    simp(disch:=omega)only[go_sem,seval,wqq,h0,h1,h6,hm',zax,ia,ib,zaV]
    have ea:a/4294967296^(m-1)=4294967296*(a/4294967296^m)+dgt a (m-1):=by
     rw[zaf,show (4294967296:Nat)^m=4294967296^(m-1)*4294967296 by rw[←Nat.pow_succ];congr 1;omega,←Nat.div_div_eq_div_mul]
     exact(Nat.div_add_mod _ _).symm
    have eb:b/4294967296^(m-1)=4294967296*(b/4294967296^m)+dgt b (m-1):=by
     rw[zaf,show (4294967296:Nat)^m=4294967296^(m-1)*4294967296 by rw[←Nat.pow_succ];congr 1;omega,←Nat.div_div_eq_div_mul]
     exact(Nat.div_add_mod _ _).symm
    have lt:∀x y:Nat,x/4294967296^(m-1)<y/4294967296^(m-1)→x<y:=fun x y h=>by
     by_cases q:x<y
     ·exact q
     ·have:=Nat.div_le_div_right (c:=4294967296^(m-1)) (show y≤x by omega)
      omega
    refine zcV (fun h=>?_) (fun h=>?_)
    ·rw[zaO] at h
     simp only[go_sem,seval]
     congr 2
     have k1:=lt a b
     have k2:=lt b a
     refine zf2 _ _ _ _ ⟨fun q=>k1 (by omega),fun q=>?_⟩ ⟨fun q=>k2 (by omega),fun q=>?_⟩
     ·have:¬dgt b (m-1)<dgt a (m-1):=fun z=>by have:=k2 (by omega);omega
      omega
     ·have:¬dgt a (m-1)<dgt b (m-1):=fun z=>by have:=k1 (by omega);omega
      omega
    ·have hd:dgt a (m-1)=dgt b (m-1):=by
      rw[zaO] at h;omega
     simp(disch:=omega)only[go_sem,seval,wqq,h6,zax]
     exact ih (m-1) _ _ (by simp only[id];omega) ⟨by simp only[go_sem,seval,h0],by simp only[go_sem,seval,h1],by simp only[go_sem,seval],by omega,by omega,rfl⟩
  ·rw[Nat.div_eq_of_lt (zai a),hl,Nat.div_eq_of_lt (zai b)]
end Go.Eng
namespace Go.Eng
structure WI where
 v:Int
 ok:wlen v.natAbs≤512
theorem WI.ext' {x y:WI} (h:x.v=y.v):x=y:=by cases x;cases y;simp at h;subst h;rfl
theorem WI.lim (x:WI):wlen x.v.natAbs≤512:=x.ok
def wi0:WI:=⟨0,by simp[wlen]⟩
def clip (z:Int):WI:=if h:wlen z.natAbs≤512 then ⟨z,h⟩ else wi0
def lerr (z:Int):Int:=if wlen z.natAbs≤512 then 0 else 4
theorem zbI {z:Int} (h:wlen z.natAbs≤512):clip z=⟨z,h⟩:=by unfold clip;rw[dif_pos h]
theorem zbc {z:Int} (h:wlen z.natAbs≤512):(clip z).v=z:=by rw[zbI h]
theorem zfA {z:Int} (h:¬wlen z.natAbs≤512):clip z=wi0:=by unfold clip;rw[dif_neg h]
theorem za7 {z:Int} (h:wlen z.natAbs≤512):lerr z=0:=by unfold lerr;rw[if_pos h]
theorem zh9 {z:Int} (h:¬wlen z.natAbs≤512):lerr z=4:=by unfold lerr;rw[if_neg h]
theorem zex (z:Int):lerr (-z)=lerr z:=by unfold lerr;rw[Int.natAbs_neg]
noncomputable def wiP (x:WI):PV:=intP x.v
theorem zdF (x:WI):wiP x=.ag [.b (decide (x.v<0)),D x.v.natAbs]:=rfl
@[go_sem] theorem znJ (M:PM) (d:Nat) (x:WI):fz M (d+1+1) (wiP x)=some (wiP x,[]):=_root_.id rfl
@[go_sem] theorem zno (x:WI):(wiP x).cells=[.b (decide (x.v<0)),D x.v.natAbs]:=_root_.id rfl
@[go_sem] theorem zqk (x:WI):PV.ag [.b (decide (x.v<0)),D x.v.natAbs]=wiP x:=_root_.id rfl
@[go_sem] theorem zph:PV.ag [.b false,.lst []]=wiP wi0:=_root_.id rfl
theorem zm7:PV.lst []=D 0:=rfl
theorem zbG {M:PM} {n:Nat} {b:PB} (h:n<M.length):PM.blk (M.set n (some b)) n=some b:=by
 rw[zaz,List.getElem?_set];simp[h]
theorem zbH {M:PM} {n k:Nat} {b:Option PB} (h:n≠k):PM.blk (M.set n b) k=PM.blk M k:=by
 unfold PM.blk;rw[List.getElem?_set_ne h]
theorem zbZ {M:PM} {n:Nat} {b:PB} (h:PM.blk M n=some b):n<M.length:=zaF (zaz.1 h)
attribute [go_sem] List.set_set
@[go_sem] theorem zop (M:PM):pcl E0 58 [] M=some (.fn 77 [.p M.length 0],M++[some ⟨[.i .u64 0],true,0⟩]):=by
 refine ziS (xf:=zvW) rfl rfl (by simp[zvW]) ?_
 simp only[zvW]
 simp only[go_sem,seval]
theorem zcN (M:PM) (n c v e:Nat) (hb:PM.blk M n=some ⟨[.i .u64 (c:Int)],true,e⟩) (h:c+v<18446744073709551616) :
  pcl E0 77 [.i .u64 (v:Int),.p n 0] M=some ((PV.i .u32 (((c+v)%4294967296:Nat):Int)),M.set n (some ⟨[.i .u64 (((c+v)/4294967296:Nat):Int)],true,e+2⟩)):=by
 refine ziS (xf:=zvM) rfl rfl (by simp[zvM]) ?_
 simp only[zvM]
 have hl:=zbZ hb
 simp(disch:=omega)only[go_sem,seval,wqq,zbe,zbN,zbO,zax,zbi,zcy,hb,zbG,zba,Int.reduceToNat,Nat.reducePow]
theorem zaG (x y:WI):pf E0 30 [wiP x,wiP y]=some (.i .i64 (cmpI x.v y.v)):=by
 refine zaa (xf:=zvT) rfl (by simp[zvT]) ?_
 simp only[zvT]
 have lx:=x.lim
 have ly:=y.lim
 by_cases hx:x.v<0
 ·by_cases hy:y.v<0
  ·simp(disch:=omega)only[go_sem,seval,wqq,hx,hy,zby]
   congr 2
   unfold cmpI
   simp only[zbi,show (y.v.natAbs<x.v.natAbs)=(x.v<y.v) by apply propext;omega,show (x.v.natAbs<y.v.natAbs)=(y.v<x.v) by apply propext;omega]
  ·simp(disch:=omega)only[go_sem,seval,wqq,hx,hy,zby]
   unfold cmpI
   rw[if_pos (by omega)]
 ·by_cases hy:y.v<0
  ·simp(disch:=omega)only[go_sem,seval,wqq,hx,hy,zby]
   unfold cmpI
   rw[if_neg (by omega),if_pos (by omega)]
  ·simp(disch:=omega)only[go_sem,seval,wqq,hx,hy,zby]
   congr 2
   unfold cmpI
   simp only[zbi,show (y.v.natAbs<x.v.natAbs)=(y.v<x.v) by apply propext;omega,show (x.v.natAbs<y.v.natAbs)=(x.v<y.v) by apply propext;omega]
attribute [go_sem] zaG
@[go_sem] theorem zbT (x:WI):pf E0 31 [wiP x]=some (.i .i64 (cmpI x.v 0)):=by
 refine zaa (xf:=zww) rfl (by simp[zww]) ?_
 simp only[zww]
 simp only[go_sem,seval]
 rfl
def WI.neg (x:WI):WI:=⟨-x.v,by rw[Int.natAbs_neg];exact x.ok⟩
@[go_sem] theorem zfe (x:WI):pf E0 43 [wiP x]=some (wiP x.neg):=by
 refine zaa (xf:=zw0) rfl (by simp[zw0]) ?_
 simp only[zw0]
 have hn:wiP x.neg=.ag [.b (decide (0<x.v)),D x.v.natAbs]:=by
  simp only[zdF,WI.neg,Int.natAbs_neg]
  congr 3
  exact decide_eq_decide.2 (by omega)
 rw[hn]
 by_cases hx:x.v<0
 ·have h2:¬0<x.v:=by omega
  simp(disch:=omega)only[go_sem,seval,wqq,hx,h2]
 ·simp(disch:=omega)only[go_sem,seval,wqq,hx]
  congr 4
  refine decide_eq_decide.2 ?_
  constructor
  ·intro h
   have:x.v.natAbs≠0:=fun q=>by rw[q] at h;simp[wlen] at h
   omega
  ·intro h
   have:=zaT (v:=x.v.natAbs) (by omega)
   omega
theorem zaA (neg:Bool) (n v:Nat) (hv:v<4294967296^n) (hn:n<1099511627776) :
  pf E0 36 [.b neg,Dw n v]=some (.tu [wiP (clip (if neg then-(v:Int) else v)),.i .i64 (lerr (v:Int))]):=by
 refine zaa (xf:=zv7) rfl (by simp[zv7]) ?_
 simp only[zv7]
 simp(disch:=omega)only[go_sem,seval,wqq,zbA]
 refine zcV (fun h=>?_) (fun h=>?_)
 ·simp(disch:=omega)only[go_sem,seval,wqq]
  have hn:¬wlen (v:Int).natAbs≤512:=by simp only[Int.natAbs_natCast];omega
  have hc:clip (if neg then-(v:Int) else v)=wi0:=by
   cases neg
   ·exact zfA hn
   ·exact zfA (by simpa using hn)
  rw[hc,zh9 hn]
 ·have hn:wlen (v:Int).natAbs≤512:=by simp only[Int.natAbs_natCast];omega
  rw[za7 hn]
  cases neg
  ·simp(disch:=omega)only[go_sem,seval,wqq]
   rw[zbI hn]
   rfl
  ·simp(disch:=omega)only[go_sem,seval,wqq]
   have hn':wlen (-(v:Int)).natAbs≤512:=by rw[Int.natAbs_neg];exact hn
   have e1:((decide ((0:Int)<(wlen v:Int))):Bool)=decide ((-(v:Int))<0):=by
    refine decide_eq_decide.2 ?_
    constructor
    ·intro h
     have:v≠0:=fun q=>by rw[q] at h;simp[wlen] at h
     omega
    ·intro h
     have:=zaT (v:=v) (by omega)
     omega
   rw[zbI hn',zdF,←e1]
   simp only[Int.natAbs_neg,Int.natAbs_natCast]
end Go.Eng
namespace Go.Eng
theorem zfy {P T s c d r:Nat} (hP:0<P) (hT:T=s%P+P*c) (hs:s=T+P*d+P*4294967296*r) :
  s/P%4294967296=(c+d)%4294967296∧T+P*d=s%(P*4294967296)+P*4294967296*((c+d)/4294967296):=by
 have e1:s/P=c+d+4294967296*r:=by
  have h1:=Nat.div_add_mod s P
  have h2:P*(s/P)=P*(c+d+4294967296*r):=by
   rw[Nat.mul_add,Nat.mul_add,←Nat.mul_assoc];omega
  exact Nat.eq_of_mul_eq_mul_left hP h2
 have e2:s/P%4294967296=(c+d)%4294967296:=by omega
 refine⟨e2,?_⟩
 rw[Nat.mod_mul,e2,hT]
 have h3:=Nat.div_add_mod (c+d) 4294967296
 have h4:P*(c+d)=P*4294967296*((c+d)/4294967296)+P*((c+d)%4294967296):=by
  rw[Nat.mul_assoc,←Nat.mul_add,h3]
 rw[Nat.mul_add] at h4
 omega
theorem zbV (a i:Nat):a=a%4294967296^i+4294967296^i*dgt a i+4294967296^i*4294967296*(a/(4294967296^i*4294967296)):=by
 have h:=zaB a i
 have h2:=Nat.div_add_mod a (4294967296^i*4294967296)
 rw[Nat.pow_succ] at h
 omega
theorem zbp {a n i:Nat} (h:a<4294967296^n) (hi:n≤i):dgt a i=0:=by
 rw[zaf,Nat.div_eq_of_lt (Nat.lt_of_lt_of_le h (Nat.pow_le_pow_right (by decide) hi))]
theorem zdw (b0:Option PB) (c v e:Nat) (h:c+v<18446744073709551616) :
  pcl E0 77 [.i .u64 (v:Int),.p 1 0] [b0,some ⟨[.i .u64 (c:Int)],true,e⟩]=some ((PV.i .u32 (((c+v)%4294967296:Nat):Int)),[b0,some ⟨[.i .u64 (((c+v)/4294967296:Nat):Int)],true,e+2⟩]) :=
 zcN _ 1 c v e rfl h
theorem zfO (b0:Option PB) (c e:Nat) (h:c<18446744073709551616) :
  pcl E0 77 [.i .u64 0,.p 1 0] [b0,some ⟨[.i .u64 (c:Int)],true,e⟩]=some ((PV.i .u32 ((c%4294967296:Nat):Int)),[b0,some ⟨[.i .u64 ((c/4294967296:Nat):Int)],true,e+2⟩]) :=
 zcN _ 1 c 0 e rfl h
theorem zkB {F:PFin} {ks:List KI} {n m a b:Nat} (hm:m≤n) (ha:a<4294967296^n) (hb:b<4294967296^m) (hn:n<1099511627776) {fr:PFr} {M:PM} (h0:fr 0=Dw n a) (h1:fr 1=Dw m b)
  (h5:fr 5=.sl 0 0 (n+1) (n+1) 1) (h6:fr 6=.fn 77 [.p 1 0]) (h22:fr 22=.i .i64 ((n+1:Nat):Int)) (h23:fr 23=.i .i64 0) (hM:M=[some ⟨List.replicate (n+1) (.i .u32 0),true,0⟩,some ⟨[.i .u64 0],true,0⟩])
  (cont:∀fr' e b2,fr' 5=.sl 0 0 (n+1) (n+1) 1→UK E0 F (.exit 0) ks fr' [some ⟨tab (n+1) (fun k=>(PV.i .u32 ((dgt (a+b) k:Nat):Int))),true,e⟩,b2]):WK E0 F (.loop zv6) ks fr M:=by
 refine zan zv6.eq_1 (fun(i:Nat) fr M=>i≤n+1∧fr 0=Dw n a∧fr 1=Dw m b∧fr 5=.sl 0 0 (n+1) (n+1) 1∧fr 6=.fn 77 [.p 1 0]∧fr 22=.i .i64 ((n+1:Nat):Int)∧fr 23=.i .i64 (i:Int) ∧
  ∃c e1 e2:Nat,M=[some ⟨tab (n+1) fun k=>(PV.i .u32 ((if k<i then dgt (a+b) k else 0:Nat):Int)),true,e1⟩,some ⟨[.i .u64 (c:Int)],true,e2⟩]∧c≤1∧a%4294967296^i+b%4294967296^i=(a+b)%4294967296^i+4294967296^i*c)
  (fun i=>n+1-i) ?_ 0 ⟨Nat.zero_le _,h0,h1,h5,h6,h22,h23,0,0,0,by rw[hM,zb7];rfl,Nat.zero_le _,by simp[Nat.mod_one]⟩
 rintro i fr M ⟨hi,h0,h1,h5,h6,h22,h23,c,e1,e2,rfl,hc,hinv⟩ ih
 by_cases hin:i<n+1
 ·have hc0:((i:Int)<((n+1:Nat):Int))=True:=by simp;omega
  have da:=zas a i
  have db:=zas b i
  have fin:∀v fr' e1 e2,v=dgt a i+dgt b i→fr' 0=Dw n a→fr' 1=Dw m b→fr' 5=.sl 0 0 (n+1) (n+1) 1→fr' 6=.fn 77 [.p 1 0]→fr' 22=.i .i64 ((n+1:Nat):Int)→fr' 23=.i .i64 ((i+1:Nat):Int) →
    WK E0 F (.loop zv6) ks fr' [some ⟨tab (n+1) fun k=>if k=i then (PV.i .u32 (((c+v)%4294967296:Nat):Int)) else (PV.i .u32 ((if k<i then dgt (a+b) k else 0:Nat):Int)),true,e1⟩,some ⟨[.i .u64 (((c+v)/4294967296:Nat):Int)],true,e2⟩]:=by
   intro v fr' e1 e2 hv g0 g1 g5 g6 g22 g23
   subst hv
   have sa:=zbV a i
   have sb:=zbV b i
   obtain⟨k1,k2⟩:=zfy (P:=4294967296^i) (T:=a%4294967296^i+b%4294967296^i) (s:=a+b) (c:=c) (d:=dgt a i+dgt b i) (r:=a/(4294967296^i*4294967296)+b/(4294967296^i*4294967296)) (zbu i) hinv (by rw[Nat.mul_add,Nat.mul_add];omega)
   refine ih (i+1) fr' _ (by omega) ⟨by omega,g0,g1,g5,g6,g22,g23,(c+(dgt a i+dgt b i))/4294967296,e1,e2,?_,by omega,?_⟩
   ·congr 3
    refine zae fun k hk=>?_
    by_cases hki:k=i
    ·subst hki
     rw[if_pos rfl,if_pos (by omega)]
     congr 2;rw[zaf (a+b)];exact k1.symm
    ·rw[if_neg hki]
     congr 1
     by_cases h:k<i
     ·rw[if_pos h,if_pos (by omega)]
     ·rw[if_neg h,if_neg (by omega)]
   ·rw[zaB,zaB b,Nat.pow_succ,←k2,Nat.mul_add];omega
  by_cases hia:i<n
  ·have hc1:((i:Int)<(n:Int))=True:=by simp;omega
   by_cases him:i<m
   ·have hc2:((i:Int)<(m:Int))=True:=by simp;omega
    simp(disch:=omega)only[go_sem,seval,wqq,zbe,zbN,zbO,zax,zbi,zcy,h0,h1,h5,h6,h22,h23,hc0,hc1,hc2,Int.zero_add,zaV,zdw,zar,hin]
    exact fin _ _ _ _ rfl (by simp only[go_sem,seval,h0]) (by simp only[go_sem,seval,h1]) (by simp only[go_sem,seval,h5]) (by simp only[go_sem,seval,h6]) (by simp only[go_sem,seval,h22]) (by simp only[go_sem,seval])
   ·have hc2:((i:Int)<(m:Int))=False:=by simp;omega
    have hz:dgt b i=0:=zbp hb (by omega)
    simp(disch:=omega)only[go_sem,seval,wqq,zbe,zbN,zbO,zax,zbi,zcy,h0,h1,h5,h6,h22,h23,hc0,hc1,hc2,Int.zero_add,zaV,zdw,zar,hin]
    exact fin _ _ _ _ (by omega) (by simp only[go_sem,seval,h0]) (by simp only[go_sem,seval,h1]) (by simp only[go_sem,seval,h5]) (by simp only[go_sem,seval,h6]) (by simp only[go_sem,seval,h22]) (by simp only[go_sem,seval])
  ·have hc1:((i:Int)<(n:Int))=False:=by simp;omega
   have hc2:((i:Int)<(m:Int))=False:=by simp;omega
   have hz:dgt b i=0:=zbp hb (by omega)
   have hz2:dgt a i=0:=zbp ha (by omega)
   simp(disch:=omega)only[go_sem,seval,wqq,zbe,zbN,zbO,zax,zbi,zcy,h0,h1,h5,h6,h22,h23,hc0,hc1,hc2,Int.zero_add,zaV,zfO,zar,hin]
   have f0:=fun fr' e1 e2=>fin 0 fr' e1 e2
   simp only[Nat.add_zero] at f0
   exact f0 _ _ _ (by omega) (by simp only[go_sem,seval,h0]) (by simp only[go_sem,seval,h1]) (by simp only[go_sem,seval,h5]) (by simp only[go_sem,seval,h6]) (by simp only[go_sem,seval,h22]) (by simp only[go_sem,seval])
 ·have hc0:((i:Int)<((n+1:Nat):Int))=False:=by simp;omega
  obtain rfl:i=n+1:=by omega
  simp(disch:=omega)only[go_sem,seval,wqq,zbe,zbN,zbO,zax,zbi,zcy,h22,h23,hc0]
  have:=cont (fr.put 24 (.b false)) e1 (some ⟨[.i .u64 (c:Int)],true,e2⟩) (by simp only[go_sem,seval,h5])
  have ht:(tab (n+1) fun k=>(PV.i .u32 ((if k<n+1 then dgt (a+b) k else 0:Nat):Int)))=tab (n+1) fun k=>(PV.i .u32 ((dgt (a+b) k:Nat):Int)):=zae fun k hk=>by rw[if_pos hk]
  rw[←ht] at this
  exact this
theorem zmB {n m a b:Nat} (ha:a<4294967296^n) (hb:b<4294967296^m) (hn:n<1073741824) (hm:m<1073741824):pf E0 40 [Dw n a,Dw m b]=some (Dw (max n m+1) (a+b)):=by
 refine zaa (xf:=zwR) rfl (by simp[zwR]) ?_
 simp only[zwR]
 have fin:∀(n m a b:Nat),m≤n→a<4294967296^n→b<4294967296^m→n<1073741824→∀fr M,fr 0=Dw n a→fr 1=Dw m b→fr 5=.sl 0 0 (n+1) (n+1) 1→fr 6=.fn 77 [.p 1 0]→fr 22=.i .i64 ((n+1:Nat):Int)→fr 23=.i .i64 0→M=[some ⟨List.replicate (n+1) (.i .u32 0),true,0⟩,some ⟨[.i .u64 0],true,0⟩]→∀n' s,n'=n+1→s=a+b →
   WK E0 { res:=[XR.tmp 4],Q:=fun w M2=>Option.map Prod.fst (fz M2 12 w)=some (Dw n' s) } (.loop zv6) [KI.block 0,KI.seq ((XC.reg [⟨some 55,.mov (.t 5),[],none⟩,⟨some 4,.mov (.t 55),[0,0],none⟩]).seq XC.ret)] fr M:=by
  intro n m a b hm ha hb hn fr M h0 h1 h5 h6 h22 h23 hM n' s hn' hs
  subst hn' hs
  refine zkB hm ha hb (by omega) h0 h1 h5 h6 h22 h23 hM fun fr' e b2 g5=>?_
  simp only[go_sem,seval,g5]
 by_cases h:n<m
 ·have hc:((n:Int)<(m:Int))=True:=by simp;omega
  simp(disch:=omega)only[go_sem,seval,wqq,zbe,zbN,zbO,zax,zbi,zcy,hc,zch]
  exact fin m n b a (by omega) hb ha (by omega) _ _ (by simp only[go_sem,seval]) (by simp only[go_sem,seval]) (by simp only[go_sem,seval]) (by simp only[go_sem,seval]) (by simp only[go_sem,seval]) (by simp only[go_sem,seval]) rfl _ _ (by omega) (by omega)
 ·have hc:((n:Int)<(m:Int))=False:=by simp;omega
  simp(disch:=omega)only[go_sem,seval,wqq,zbe,zbN,zbO,zax,zbi,zcy,hc,zch]
  exact fin n m a b (by omega) ha hb (by omega) _ _ (by simp only[go_sem,seval]) (by simp only[go_sem,seval]) (by simp only[go_sem,seval]) (by simp only[go_sem,seval]) (by simp only[go_sem,seval]) (by simp only[go_sem,seval]) rfl _ _ (by omega) rfl
theorem zhR (n:Nat) (k:IntKind) (g:Nat→Int):ez 1 (tab n fun j=>PV.i k (g j))=true:=by
 unfold ez tab
 simp[PV.cells]
theorem zgd (n:Nat) (k:IntKind) (g:Nat→Int):flat (tab n fun j=>PV.i k (g j))=tab n fun j=>PV.i k (g j):=by
 unfold flat tab
 rw[List.flatMap_map]
 simp only[PV.cells]
 rw[←List.map_eq_flatMap]
theorem znr {n a e:Nat} {l:List PV} (hl:l.length=n):cpyP [some ⟨l,true,e⟩] 1 (.sl 0 0 n n 1) (Dw n a)=some (.i .i64 (n:Int),[some ⟨tab n fun k=>(PV.i .u32 ((dgt a k:Nat):Int)),true,e+1⟩]):=by
 have h1:srcP [some ⟨l,true,e⟩] 1 (Dw n a)=some (n,tab n fun k=>(PV.i .u32 ((dgt a k:Nat):Int))):=by
  simp only[srcP,Dw,zhR,if_true,zgd,zaX]
 simp only[cpyP,h1,ne_eq,not_true_eq_false,if_false,zjw,Nat.min_self,Nat.mul_one,Nat.zero_add,hl,Nat.le_refl,and_self,if_true,List.set_cons_zero,zkD]
 congr 5
 simp[psplice,hl]
theorem zkA {F:PFin} {ks:List KI} {n m a b s e0:Nat} (hs:a=s+b) (hb:b<4294967296^m) (hn:n<1099511627776) (hm:m<1099511627776) {fr:PFr} {M:PM} (h0:fr 0=.sl 0 0 n n 1) (h1:fr 1=Dw m b)
  (h5:fr 5=.i .u64 0) (h10:fr 10=.i .i64 (n:Int)) (h11:fr 11=.i .i64 0) (hM:M=[some ⟨tab n fun k=>(PV.i .u32 ((dgt a k:Nat):Int)),true,e0⟩])
  (cont:∀fr' e (c:Nat),fr' 5=.i .u64 (c:Int)→UK E0 F (.exit 0) ks fr' [some ⟨tab n (fun k=>(PV.i .u32 ((dgt s k:Nat):Int))),true,e⟩]):WK E0 F (.loop zvB) ks fr M:=by
 refine zan zvB.eq_1 (fun(i:Nat) fr M=>i≤n∧fr 0=.sl 0 0 n n 1∧fr 1=Dw m b∧fr 10=.i .i64 (n:Int)∧fr 11=.i .i64 (i:Int) ∧
  ∃c e:Nat,fr 5=.i .u64 (c:Int)∧M=[some ⟨tab n fun k=>(PV.i .u32 ((if k<i then dgt s k else dgt a k:Nat):Int)),true,e⟩]∧c≤1∧s%4294967296^i+b%4294967296^i=a%4294967296^i+4294967296^i*c)
  (fun i=>n-i) ?_ 0 ⟨Nat.zero_le _,h0,h1,h10,h11,0,e0,h5,by rw[hM];rfl,Nat.zero_le _,by simp[Nat.mod_one]⟩
 rintro i fr M ⟨hi,h0,h1,h10,h11,c,e,h5,rfl,hc,hinv⟩ ih
 by_cases hin:i<n
 ·have hc0:((i:Int)<(n:Int))=True:=by simp;omega
  have da:=zas a i
  have db:=zas b i
  have ds:=zas s i
  have hget:(tab n fun k=>(PV.i .u32 ((if k<i then dgt s k else dgt a k:Nat):Int)))[i]?=some ((PV.i .u32 ((dgt a i:Nat):Int))):=by rw[zaL hin,if_neg (by omega)]
  have fin:∀z c' fr' e,z<4294967296→dgt a i+4294967296*c'=z+c+dgt b i→fr' 0=.sl 0 0 n n 1→fr' 1=Dw m b→fr' 10=.i .i64 (n:Int)→fr' 11=.i .i64 ((i+1:Nat):Int)→fr' 5=.i .u64 (c':Int)→∀M',M'=[some ⟨tab n fun k=>if k=i then (PV.i .u32 ((z:Nat):Int)) else (PV.i .u32 ((if k<i then dgt s k else dgt a k:Nat):Int)),true,e⟩] →
    WK E0 F (.loop zvB) ks fr' M':=by
   intro z c' fr' e hz heq g0 g1 g10 g11 g5 M' hM'
   subst hM'
   have sa:=zbV s i
   have sb:=zbV b i
   obtain⟨k1,k2⟩:=zfy (P:=4294967296^i) (T:=s%4294967296^i+b%4294967296^i) (s:=a) (c:=c) (d:=dgt s i+dgt b i) (r:=s/(4294967296^i*4294967296)+b/(4294967296^i*4294967296)) (zbu i) hinv (by rw[Nat.mul_add,Nat.mul_add];omega)
   have k1':dgt a i=(c+(dgt s i+dgt b i))%4294967296:=by rw[zaf a];exact k1
   have hz':z=dgt s i:=by omega
   have hc':c'=(c+(dgt s i+dgt b i))/4294967296:=by omega
   refine ih (i+1) fr' _ (by omega) ⟨by omega,g0,g1,g10,g11,c',e,g5,?_,by omega,?_⟩
   ·congr 3
    refine zae fun k hk=>?_
    by_cases hki:k=i
    ·subst hki
     rw[if_pos rfl,if_pos (by omega),hz']
    ·rw[if_neg hki]
     congr 1
     by_cases h:k<i
     ·rw[if_pos h,if_pos (by omega)]
     ·rw[if_neg h,if_neg (by omega)]
   ·rw[hc',zaB,zaB b,Nat.pow_succ,←k2,Nat.mul_add];omega
  have i0:((i:Int)+1)=((i+1:Nat):Int):=by omega
  by_cases him:i<m
  ·have hc2:((i:Int)<(m:Int))=True:=by simp;omega
   by_cases hgt:dgt a i<c+dgt b i
   ·have hg:((dgt a i:Int)<(c:Int)+(dgt b i:Int))=True:=by simp;omega
    simp(disch:=omega)only[go_sem,seval,wqq,h0,h1,h5,h10,h11,hc0,hc2,zaV,hin,hget,hg,i0,zar]
    refine fin (dgt a i+4294967296-(c+dgt b i)) 1 _ (e+1) (by omega) (by omega) (by simp only[go_sem,seval,h0]) (by simp only[go_sem,seval,h1]) (by simp only[go_sem,seval,h10]) (by simp only[go_sem,seval]) (by simp only[go_sem,seval];try rfl) _ ?_
    congr 3
    refine zae fun k hk=>?_
    split
    ·congr 1;omega
    ·rfl
   ·have hg:((dgt a i:Int)<(c:Int)+(dgt b i:Int))=False:=by simp;omega
    simp(disch:=omega)only[go_sem,seval,wqq,h0,h1,h5,h10,h11,hc0,hc2,zaV,hin,hget,hg,i0,zar]
    refine fin (dgt a i-(c+dgt b i)) 0 _ (e+1) (by omega) (by omega) (by simp only[go_sem,seval,h0]) (by simp only[go_sem,seval,h1]) (by simp only[go_sem,seval,h10]) (by simp only[go_sem,seval]) (by simp only[go_sem,seval];try rfl) _ ?_
    congr 3
    refine zae fun k hk=>?_
    split
    ·congr 1;omega
    ·rfl
  ·have hc2:((i:Int)<(m:Int))=False:=by simp;omega
   have hz:dgt b i=0:=zbp hb (by omega)
   by_cases hgt:dgt a i<c
   ·have hg:((dgt a i:Int)<(c:Int))=True:=by simp;omega
    simp(disch:=omega)only[go_sem,seval,wqq,h0,h1,h5,h10,h11,hc0,hc2,zaV,hin,hget,hg,i0,zar]
    refine fin (dgt a i+4294967296-c) 1 _ (e+1) (by omega) (by omega) (by simp only[go_sem,seval,h0]) (by simp only[go_sem,seval,h1]) (by simp only[go_sem,seval,h10]) (by simp only[go_sem,seval]) (by simp only[go_sem,seval];try rfl) _ ?_
    congr 3
    refine zae fun k hk=>?_
    split
    ·congr 1;omega
    ·rfl
   ·have hg:((dgt a i:Int)<(c:Int))=False:=by simp;omega
    simp(disch:=omega)only[go_sem,seval,wqq,h0,h1,h5,h10,h11,hc0,hc2,zaV,hin,hget,hg,i0,zar]
    refine fin (dgt a i-c) 0 _ (e+1) (by omega) (by omega) (by simp only[go_sem,seval,h0]) (by simp only[go_sem,seval,h1]) (by simp only[go_sem,seval,h10]) (by simp only[go_sem,seval]) (by simp only[go_sem,seval];try rfl) _ ?_
    congr 3
    refine zae fun k hk=>?_
    split
    ·congr 1;omega
    ·rfl
 ·have hc0:((i:Int)<(n:Int))=False:=by simp;omega
  obtain rfl:i=n:=by omega
  simp only[go_sem,seval,h10,h11,hc0]
  have ht:(tab i fun k=>(PV.i .u32 ((if k<i then dgt s k else dgt a k:Nat):Int)))=tab i fun k=>(PV.i .u32 ((dgt s k:Nat):Int)):=zae fun k hk=>by rw[if_pos hk]
  rw[ht]
  exact cont _ e c (by simp only[go_sem,seval,h5])
theorem za6 {n m a b s:Nat} (hs:a=s+b) (hb:b<4294967296^m) (hn:n<1073741824) (hm:m<1073741824) (ha:a<4294967296^n):pf E0 42 [Dw n a,Dw m b]=some (Dw n s):=by
 by_cases h0:n=0
 ·subst h0
  have ha0:a=0:=by simpa using ha
  obtain rfl:s=0:=by omega
  obtain rfl:b=0:=by omega
  have hsub:∃v M',pcl E0 62 [.nl,Dw m 0] []=some (v,M')∧M'=[]:=by
   refine zeF (xf:=zvp) rfl rfl (by simp[zvp]) ?_
   simp only[zvp]
   simp only[go_sem,seval]
   refine zcW ?_
   simp only[zvB]
   simp(disch:=omega)only[go_sem,seval,wqq,Int.lt_irrefl]
  obtain⟨v,M',h1,rfl⟩:=hsub
  refine zaa (xf:=zvn) rfl (by simp[zvn]) ?_
  simp only[zvn]
  have hc:cpyP [] 1 .nl (Dw 0 a)=some (.i .i64 0,[]):=by
   simp[cpyP,Dw,srcP,ez,tab]
  simp only[go_sem,seval,Int.natCast_zero,zcs,Int.reduceLE,Int.reduceToNat,zds,hc,h1]
  rfl
 ·have hsub:∃v M',pcl E0 62 [.sl 0 0 n n 1,Dw m b] [some ⟨tab n fun k=>(PV.i .u32 ((dgt a k:Nat):Int)),true,1⟩]=some (v,M')∧∃e,M'=[some ⟨tab n fun k=>(PV.i .u32 ((dgt s k:Nat):Int)),true,e⟩]:=by
   refine zeF (xf:=zvp) rfl rfl (by simp[zvp]) ?_
   simp only[zvp]
   simp only[go_sem,seval]
   refine zkA hs hb (by omega) (by omega) (by simp only[go_sem,seval]) (by simp only[go_sem,seval]) (by simp only[go_sem,seval]) (by simp only[go_sem,seval]) (by simp only[go_sem,seval]) rfl fun fr' e c g5=>?_
   simp only[go_sem,seval,g5]
   exact⟨e,rfl⟩
  obtain⟨v,M',h1,e,rfl⟩:=hsub
  refine zaa (xf:=zvn) rfl (by simp[zvn]) ?_
  simp only[zvn]
  have hc:=znr (n:=n) (a:=a) (e:=0) (l:=List.replicate n (.i .u32 0)) (by simp)
  simp(disch:=omega)only[go_sem,seval,wqq,zch,hc,h1,h0]
end Go.Eng
namespace Go.Eng
theorem zih {a b:Nat}:a+b<4294967296^(max (wlen a) (wlen b)+1):=by
 have h1:=Nat.lt_of_lt_of_le (zai a) (Nat.pow_le_pow_right (by decide:0<4294967296) (Nat.le_max_left (wlen a) (wlen b)))
 have h2:=Nat.lt_of_lt_of_le (zai b) (Nat.pow_le_pow_right (by decide:0<4294967296) (Nat.le_max_right (wlen a) (wlen b)))
 rw[Nat.pow_succ];omega
theorem zmn (x y:WI):pf E0 23 [wiP x,wiP y]=some (.tu [wiP (clip (x.v+y.v)),.i .i64 (lerr (x.v+y.v))]):=by
 refine zaa (xf:=zwY) rfl (by simp[zwY]) ?_
 simp only[zwY]
 have lx:=x.lim
 have ly:=y.lim
 have hsum:=zmB (zai x.v.natAbs) (zai y.v.natAbs) (by omega) (by omega)
 have hcmp:=zby x.v.natAbs y.v.natAbs (by omega) (by omega)
 have lm:max (wlen x.v.natAbs) (wlen y.v.natAbs)+1<1099511627776:=by omega
 by_cases hx:x.v<0
 ·by_cases hy:y.v<0
  ·have hsg:=zaA true _ _ (zih (a:=x.v.natAbs) (b:=y.v.natAbs)) lm
   have e1:(if true=true then-((x.v.natAbs+y.v.natAbs:Nat):Int) else ((x.v.natAbs+y.v.natAbs:Nat):Int))=x.v+y.v:=by rw[if_pos rfl];omega
   have e2:lerr ((x.v.natAbs+y.v.natAbs:Nat):Int)=lerr (x.v+y.v):=by rw[←e1,if_pos rfl,zex]
   rw[e1,e2] at hsg
   simp only[go_sem,seval,hx,hy]
   refine za9 rfl ?_
   simp only[go_sem,seval,hsum,hsg]
  ·by_cases hab:x.v.natAbs<y.v.natAbs
   ·have hc:(cmpI (x.v.natAbs:Int) (y.v.natAbs:Int)<0)=True:=by unfold cmpI;simp;omega
    have hd:=za6 (a:=y.v.natAbs) (b:=x.v.natAbs) (s:=y.v.natAbs-x.v.natAbs) (by omega) (zai _) (by omega) (by omega) (zai y.v.natAbs)
    have hsg:=zaA false (wlen y.v.natAbs) (y.v.natAbs-x.v.natAbs) (Nat.lt_of_le_of_lt (Nat.sub_le _ _) (zai _)) (by omega)
    have e1:((y.v.natAbs-x.v.natAbs:Nat):Int)=x.v+y.v:=by omega
    rw[if_neg (by simp),e1] at hsg
    simp only[go_sem,seval,hx,hy,hcmp,hc]
    refine za9 rfl ?_
    simp only[go_sem,seval,hd,hsg]
   ·have hc:(cmpI (x.v.natAbs:Int) (y.v.natAbs:Int)<0)=False:=by unfold cmpI;simp;omega
    have hd:=za6 (a:=x.v.natAbs) (b:=y.v.natAbs) (s:=x.v.natAbs-y.v.natAbs) (by omega) (zai _) (by omega) (by omega) (zai x.v.natAbs)
    have hsg:=zaA true (wlen x.v.natAbs) (x.v.natAbs-y.v.natAbs) (Nat.lt_of_le_of_lt (Nat.sub_le _ _) (zai _)) (by omega)
    have e1 : -((x.v.natAbs-y.v.natAbs:Nat):Int)=x.v+y.v:=by omega
    rw[if_pos rfl,e1,←zex,e1] at hsg
    simp only[go_sem,seval,hx,hy,hcmp,hc]
    refine za9 rfl ?_
    simp only[go_sem,seval,hd,hsg]
 ·by_cases hy:y.v<0
  ·by_cases hab:x.v.natAbs<y.v.natAbs
   ·have hc:(cmpI (x.v.natAbs:Int) (y.v.natAbs:Int)<0)=True:=by unfold cmpI;simp;omega
    have hd:=za6 (a:=y.v.natAbs) (b:=x.v.natAbs) (s:=y.v.natAbs-x.v.natAbs) (by omega) (zai _) (by omega) (by omega) (zai y.v.natAbs)
    have hsg:=zaA true (wlen y.v.natAbs) (y.v.natAbs-x.v.natAbs) (Nat.lt_of_le_of_lt (Nat.sub_le _ _) (zai _)) (by omega)
    have e1 : -((y.v.natAbs-x.v.natAbs:Nat):Int)=x.v+y.v:=by omega
    rw[if_pos rfl,e1,←zex,e1] at hsg
    simp only[go_sem,seval,hx,hy,hcmp,hc]
    refine za9 rfl ?_
    simp only[go_sem,seval,hd,hsg]
   ·have hc:(cmpI (x.v.natAbs:Int) (y.v.natAbs:Int)<0)=False:=by unfold cmpI;simp;omega
    have hd:=za6 (a:=x.v.natAbs) (b:=y.v.natAbs) (s:=x.v.natAbs-y.v.natAbs) (by omega) (zai _) (by omega) (by omega) (zai x.v.natAbs)
    have hsg:=zaA false (wlen x.v.natAbs) (x.v.natAbs-y.v.natAbs) (Nat.lt_of_le_of_lt (Nat.sub_le _ _) (zai _)) (by omega)
    have e1:((x.v.natAbs-y.v.natAbs:Nat):Int)=x.v+y.v:=by omega
    rw[if_neg (by simp),e1] at hsg
    simp only[go_sem,seval,hx,hy,hcmp,hc]
    refine za9 rfl ?_
    simp only[go_sem,seval,hd,hsg]
  ·have hsg:=zaA false _ _ (zih (a:=x.v.natAbs) (b:=y.v.natAbs)) lm
   have e1:((x.v.natAbs+y.v.natAbs:Nat):Int)=x.v+y.v:=by omega
   rw[if_neg (by simp),e1] at hsg
   simp only[go_sem,seval,hx,hy]
   refine za9 rfl ?_
   simp only[go_sem,seval,hsum,hsg]
attribute [go_sem] zmn
theorem zoo (x y:WI):pf E0 39 [wiP x,wiP y]=some (.tu [wiP (clip (x.v-y.v)),.i .i64 (lerr (x.v-y.v))]):=by
 refine zaa (xf:=zwM) rfl (by simp[zwM]) ?_
 simp only[zwM]
 simp only[go_sem,seval]
 refine za9 rfl ?_
 simp only[go_sem,seval]
 rfl
attribute [go_sem] zoo
theorem zoN (P w b i j:Nat):P+w*4294967296^i*b=(P%4294967296^(i+j)+w*4294967296^i*(b%4294967296^j))+4294967296^(i+j)*(dgt P (i+j)+w*dgt b j)+4294967296^(i+j)*4294967296*(P/(4294967296^(i+j)*4294967296)+w*(b/(4294967296^j*4294967296))):=by
 have sp:=zbV P (i+j)
 have sb:=zbV b j
 rw[Nat.pow_add] at sp ⊢
 generalize 4294967296^i=p at *
 generalize 4294967296^j=q at *
 generalize P%(p*q)=r1 at *
 generalize P/(p*q*4294967296)=r2 at *
 generalize b%q=r3 at *
 generalize b/(q*4294967296)=r4 at *
 generalize dgt P (i+j)=r5 at *
 generalize dgt b j=r6 at *
 subst sp sb
 grind
theorem zkv {F:PFin} {ks:List KI} {n m P b w i e0:Nat} (hb:b<4294967296^m) (hw:w<4294967296) (hi:i<n) (hn:n<1073741824) (hm:m<1073741824) {fr:PFr} {M:PM} (h1:fr 25=Dw m b) (h5:fr 5=.sl 0 0 (n+m) (n+m) 1)
  (h6:fr 6=.i .i64 (i:Int)) (h7:fr 7=(PV.i .u32 ((w:Nat):Int))) (h8:fr 8=.i .u64 0) (h26:fr 26=.i .i64 (m:Int)) (h27:fr 27=.i .i64 0) (hM:M=[some ⟨tab (n+m) fun k=>(PV.i .u32 ((dgt P k:Nat):Int)),true,e0⟩]) (a:PV) (h0:fr 1=a) (N:PV) (h19:fr 19=N) (L:PV) (h18:fr 18=L) (I:PV) (h20:fr 20=I)
  (cont:∀fr' e c,fr' 1=a→fr' 5=.sl 0 0 (n+m) (n+m) 1→fr' 6=.i .i64 (i:Int)→fr' 18=L→fr' 19=N→fr' 20=I→fr' 8=.i .u64 ((c:Nat):Int)→c<4294967296→P%4294967296^(i+m)+w*4294967296^i*b=(P+w*4294967296^i*b)%4294967296^(i+m)+4294967296^(i+m)*c →
   UK E0 F (.exit 2) ks fr' [some ⟨tab (n+m) (fun k=>(PV.i .u32 ((if k<i+m then dgt (P+w*4294967296^i*b) k else dgt P k:Nat):Int))),true,e⟩]):WK E0 F (.loop zwJ) ks fr M:=by
 refine zan zwJ.eq_1 (fun(j:Nat) fr M=>j≤m∧fr 25=Dw m b∧fr 5=.sl 0 0 (n+m) (n+m) 1∧fr 6=.i .i64 (i:Int)∧fr 7=(PV.i .u32 ((w:Nat):Int))∧fr 26=.i .i64 (m:Int)∧fr 27=.i .i64 (j:Int)∧fr 1=a∧fr 18=L∧fr 19=N∧fr 20=I ∧
  ∃c e:Nat,fr 8=.i .u64 (c:Int)∧M=[some ⟨tab (n+m) fun k=>(PV.i .u32 ((if k<i+j then dgt (P+w*4294967296^i*b) k else dgt P k:Nat):Int)),true,e⟩]∧c<4294967296∧P%4294967296^(i+j)+w*4294967296^i*(b%4294967296^j)=(P+w*4294967296^i*b)%4294967296^(i+j)+4294967296^(i+j)*c)
  (fun j=>m-j) ?_ 0 ⟨Nat.zero_le _,h1,h5,h6,h7,h26,h27,h0,h18,h19,h20,0,e0,h8,?_,by decide,?_⟩
 ·rintro j fr M ⟨hj,h25,h5,h6,h7,h26,h27,h0,h18,h19,h20,c,e,h8,rfl,hc,hinv⟩ ih
  by_cases hjm:j<m
  ·have hc0:((j:Int)<(m:Int))=True:=by simp;omega
   have db:=zas b j
   have dp:=zas P (i+j)
   have hget:(tab (n+m) fun k=>(PV.i .u32 ((if k<i+j then dgt (P+w*4294967296^i*b) k else dgt P k:Nat):Int)))[i+j]?=some (PV.i .u32 ((dgt P (i+j):Nat):Int)):=by rw[zaL (by omega),if_neg (by omega)]
   have hij:((i:Int)+(j:Int))=((i+j:Nat):Int):=by omega
   have j1:((j:Int)+1)=((j+1:Nat):Int):=by omega
   have hmul:w*dgt b j≤4294967295*4294967295:=Nat.mul_le_mul (by omega) (by omega)
   have hww:((w:Int)*(dgt b j:Int))=((w*dgt b j:Nat):Int):=by simp
   have hadd:(((w*dgt b j:Nat):Int)+(dgt P (i+j):Int)+(c:Int))=((w*dgt b j+dgt P (i+j)+c:Nat):Int):=by omega
   have hlt:i+j<n+m:=by omega
   simp(disch:=omega)only[go_sem,seval,wqq,h25,h5,h6,h7,h8,h26,h27,hc0,zaV,hij,hget,hww,hadd,hlt,j1,zba,zar,Int.reduceToNat,Nat.reducePow]
   obtain⟨k1,k2⟩:=zfy (c:=c) (zbu (i+j)) hinv (zoN P w b i j)
   have hx:c+(dgt P (i+j)+w*dgt b j)=w*dgt b j+dgt P (i+j)+c:=by omega
   rw[hx] at k1 k2
   refine ih (j+1) _ _ (by omega) ⟨by omega,by simp only[go_sem,seval,h25],by simp only[go_sem,seval,h5],by simp only[go_sem,seval,h6],by simp only[go_sem,seval,h7],by simp only[go_sem,seval,h26],by simp only[go_sem,seval],by simp only[go_sem,seval,h0],by simp only[go_sem,seval,h18],by simp only[go_sem,seval,h19],by simp only[go_sem,seval,h20],(w*dgt b j+dgt P (i+j)+c)/4294967296,e+1,by simp only[go_sem,seval],?_,by omega,?_⟩
   ·congr 3
    refine zae fun k hk=>?_
    by_cases hki:k=i+j
    ·subst hki
     rw[if_pos rfl,if_pos (by omega)]
     congr 2;rw[zaf (P+w*4294967296^i*b)];exact k1.symm
    ·rw[if_neg hki]
     congr 2
     by_cases h:k<i+j
     ·rw[if_pos h,if_pos (by omega)]
     ·rw[if_neg h,if_neg (by omega)]
   ·rw[show i+(j+1)=i+j+1 by omega,Nat.pow_succ,←k2,←Nat.pow_succ,zaB P,zaB b]
    rw[Nat.pow_add]
    grind
  ·have hc0:((j:Int)<(m:Int))=False:=by simp;omega
   obtain rfl:j=m:=by omega
   simp only[go_sem,seval,h26,h27,hc0]
   rw[Nat.mod_eq_of_lt hb] at hinv
   exact cont _ e c (by simp only[go_sem,seval,h0]) (by simp only[go_sem,seval,h5]) (by simp only[go_sem,seval,h6]) (by simp only[go_sem,seval,h18]) (by simp only[go_sem,seval,h19]) (by simp only[go_sem,seval,h20]) (by simp only[go_sem,seval,h8]) hc hinv
 ·rw[hM]
  congr 3
  refine zae fun k hk=>?_
  congr 2
  by_cases h:k<i+0
  ·rw[if_pos h,zaf,zaf]
   have e1:(4294967296:Nat)^i=4294967296^k*(4294967296^(i-k-1)*4294967296):=by
    rw[←Nat.pow_succ,←Nat.pow_add];congr 1;omega
   rw[e1,show w*(4294967296^k*(4294967296^(i-k-1)*4294967296))*b=4294967296^k*(4294967296*(w*4294967296^(i-k-1)*b)) by grind,Nat.add_mul_div_left _ _ (zbu k),Nat.add_mul_mod_self_left]
  ·rw[if_neg h]
 ·have e1:P+w*4294967296^i*b=P+4294967296^i*(w*b):=by grind
  rw[Nat.add_zero,Nat.pow_zero,Nat.mod_one,e1,Nat.add_mul_mod_self_left];simp
theorem zmC {n m a b:Nat} (ha:a<4294967296^n) (hb:b<4294967296^m) (hn:n<536870912) (hm:m<536870912) (h0:n+m≠0):pf E0 59 [Dw n a,Dw m b]=some (Dw (n+m) (a*b)):=by
 refine zaa (xf:=zvC) rfl (by simp[zvC]) ?_
 simp only[zvC]
 have hnm:((n:Int)+(m:Int))=((n+m:Nat):Int):=by omega
 simp(disch:=omega)only[go_sem,seval,wqq,hnm,zch]
 refine zan zwK.eq_1 (fun(i:Nat) fr M=>i≤n∧fr 1=Dw m b∧fr 5=.sl 0 0 (n+m) (n+m) 1∧fr 18=Dw n a∧fr 19=.i .i64 (n:Int)∧fr 20=.i .i64 (i:Int) ∧
  ∃e:Nat,M=[some ⟨tab (n+m) fun k=>(PV.i .u32 ((dgt (a%4294967296^i*b) k:Nat):Int)),true,e⟩]) (fun i=>n-i) ?_ 0 ⟨Nat.zero_le _,by simp only[go_sem,seval],by simp only[go_sem,seval],by simp only[go_sem,seval],by simp only[go_sem,seval],by simp only[go_sem,seval];try rfl,0,?_⟩
 ·rintro i fr M ⟨hi,h1,h5,h18,h19,h20,e,rfl⟩ ih
  by_cases hin:i<n
  ·have hc0:((i:Int)<(n:Int))=True:=by simp;omega
   have i1:((i:Int)+1)=((i+1:Nat):Int):=by omega
   simp(disch:=omega)only[go_sem,seval,wqq,h1,h5,h18,h19,h20,hc0,zaV]
   refine zkv (n:=n) (P:=a%4294967296^i*b) (w:=dgt a i) hb (zas a i) hin (by omega) (by omega) (by simp only[go_sem,seval,h1]) (by simp only[go_sem,seval,h5]) (by simp only[go_sem,seval]) (by simp only[go_sem,seval]) (by simp only[go_sem,seval]) (by simp only[go_sem,seval]) (by simp only[go_sem,seval]) rfl (Dw m b) (by simp only[go_sem,seval,h1]) (.i .i64 (n:Int)) (by simp only[go_sem,seval,h19]) (Dw n a) (by simp only[go_sem,seval,h18]) (.i .i64 (i:Int)) (by simp only[go_sem,seval,h20]) fun fr' e' c g1 g5 g6 g18 g19 g20 g8 hc hinv=>?_
   have him:((i:Int)+(m:Int))=((i+m:Nat):Int):=by omega
   have hlt:i+m<n+m:=by omega
   simp(disch:=omega)only[go_sem,seval,wqq,g1,g5,g6,g18,g19,g20,g8,him,hlt,i1,zar]
   have hP:a%4294967296^(i+1)*b=a%4294967296^i*b+dgt a i*4294967296^i*b:=by rw[zaB];grind
   have hPl:a%4294967296^i*b<4294967296^(i+m):=by
    rw[Nat.pow_add]
    exact Nat.mul_lt_mul'' (Nat.mod_lt _ (zbu i)) hb
   refine ih (i+1) _ _ (by omega) ⟨by omega,by simp only[go_sem,seval,g1],by simp only[go_sem,seval,g5],by simp only[go_sem,seval,g18],by simp only[go_sem,seval,g19],by simp only[go_sem,seval],e'+1,?_⟩
   congr 3
   refine zae fun k hk=>?_
   rw[hP]
   rw[Nat.mod_eq_of_lt hPl] at hinv
   have hval:a%4294967296^i*b+dgt a i*4294967296^i*b=(a%4294967296^i*b+dgt a i*4294967296^i*b)%4294967296^(i+m)+4294967296^(i+m)*c:=hinv
   have hd:(a%4294967296^i*b+dgt a i*4294967296^i*b)/4294967296^(i+m)=c:=by
    have h1:=Nat.div_add_mod (a%4294967296^i*b+dgt a i*4294967296^i*b) (4294967296^(i+m))
    exact Nat.eq_of_mul_eq_mul_left (zbu (i+m)) (by omega)
   by_cases hki:k=i+m
   ·subst hki
    rw[if_pos rfl,zaf,hd]
    congr 2;omega
   ·rw[if_neg hki]
    congr 2
    by_cases h:k<i+m
    ·rw[if_pos h]
    ·rw[if_neg h,zbp hPl (by omega)]
     have:a%4294967296^i*b+dgt a i*4294967296^i*b<4294967296^(i+m+1):=by
      rw[Nat.pow_succ]
      have h2:=Nat.mod_lt (a%4294967296^i*b+dgt a i*4294967296^i*b) (zbu (i+m))
      have h3:4294967296^(i+m)*(c+1)≤4294967296^(i+m)*4294967296:=Nat.mul_le_mul_left _ (by omega)
      rw[Nat.mul_add] at h3
      omega
     rw[zbp this (by omega)]
  ·have hc0:((i:Int)<(n:Int))=False:=by simp;omega
   obtain rfl:i=n:=by omega
   simp only[go_sem,seval,h5,h19,h20,hc0]
   rw[Nat.mod_eq_of_lt ha]
   simp only[h0,if_false];rfl
 ·rw[zb7]
  congr 3
  refine zae fun k hk=>?_
  simp[Nat.mod_one,zc8]
end Go.Eng
namespace Go.Eng
theorem zok {x y:Nat} (hx:x<18446744073709551616) (hy:y<18446744073709551616):binP .or (.i .u64 (x:Int)) (.i .u64 (y:Int))=some (.i .u64 ((x ||| y:Nat):Int)):=by
 have h:(BitVec.ofInt 64 (x:Int) ||| BitVec.ofInt 64 (y:Int)).toNat=x ||| y:=by
  rw[BitVec.toNat_or,BitVec.ofInt_natCast,BitVec.ofInt_natCast,BitVec.toNat_ofNat,BitVec.toNat_ofNat,Nat.mod_eq_of_lt (by omega),Nat.mod_eq_of_lt (by omega)]
 have hlt:x ||| y<2^64:=Nat.or_lt_two_pow (by omega) (by omega)
 have h2:binP .or (.i .u64 (x:Int)) (.i .u64 (y:Int))=some (.i .u64 (IntKind.wrap .u64 (((BitVec.ofInt 64 (x:Int) ||| BitVec.ofInt 64 (y:Int)).toNat:Nat):Int))):=rfl
 rw[h2,h,wqb (by omega) (by omega)]
theorem zdY {h y:Nat} (hh:h<4294967296) (hy:y<4294967296):binP .or (.i .u64 ((h*4294967296:Nat):Int)) (.i .u64 (y:Int))=some (.i .u64 ((h*4294967296+y:Nat):Int)):=by
 rw[zok (by omega) (by omega)]
 have:=Nat.two_pow_add_eq_or_of_lt (i:=32) (b:=y) (by omega) h
 rw[show (2:Nat)^32=4294967296 by decide] at this
 rw[Nat.mul_comm h,←this]
theorem zgI {n m a b:Nat} (ha:a<4294967296^n) (hb:b<4294967296^m) (hn:n<536870912) (hm:m<536870912):pf E0 59 [Dw n a,Dw m b]=some (Dw (n+m) (a*b)):=by
 by_cases h0:n+m=0
 ·obtain rfl:n=0:=by omega
  obtain rfl:m=0:=by omega
  refine zaa (xf:=zvC) rfl (by simp[zvC]) ?_
  simp only[zvC]
  simp(disch:=omega)only[go_sem,seval,wqq,Int.natCast_zero,Int.add_zero,zcs,Int.reduceLE,Int.reduceToNat,zds]
  refine zcW ?_
  simp only[zwK]
  simp(disch:=omega)only[go_sem,seval,wqq,Int.lt_irrefl]
  rfl
 ·exact zmC ha hb hn hm h0
theorem zn0 {a b:Nat}:a*b<4294967296^(wlen a+wlen b):=by
 rw[Nat.pow_add]
 exact Nat.mul_lt_mul'' (zai a) (zai b)
theorem zkc (x y:WI):pf E0 38 [wiP x,wiP y]=some (.tu [wiP (clip (x.v*y.v)),.i .i64 (lerr (x.v*y.v))]):=by
 refine zaa (xf:=zwS) rfl (by simp[zwS]) ?_
 simp only[zwS]
 have lx:=x.lim
 have ly:=y.lim
 have ht:=zgI (zai x.v.natAbs) (zai y.v.natAbs) (by omega) (by omega)
 have hs:=zaA (decide (x.v<0) != decide (y.v<0)) _ _ (zn0 (a:=x.v.natAbs) (b:=y.v.natAbs)) (by omega)
 have e1:(if (decide (x.v<0) != decide (y.v<0))=true then-((x.v.natAbs*y.v.natAbs:Nat):Int) else ((x.v.natAbs*y.v.natAbs:Nat):Int))=x.v*y.v:=by
  rw[←Int.natAbs_mul]
  by_cases hx:x.v<0<;>by_cases hy:y.v<0
  ·have:=Int.mul_pos_of_neg_of_neg hx hy
   simp[hx,hy];omega
  ·have:=Int.mul_nonpos_of_nonpos_of_nonneg (show x.v≤0 by omega) (show 0≤y.v by omega)
   simp[hx,hy];omega
  ·have:=Int.mul_nonpos_of_nonneg_of_nonpos (show 0≤x.v by omega) (show y.v≤0 by omega)
   simp[hx,hy];omega
  ·have:=Int.mul_nonneg (show 0≤x.v by omega) (show 0≤y.v by omega)
   simp[hx,hy];omega
 have e2:lerr ((x.v.natAbs*y.v.natAbs:Nat):Int)=lerr (x.v*y.v):=by
  unfold lerr
  rw[Int.natAbs_mul,Int.natAbs_natCast]
 rw[e1,e2] at hs
 simp only[go_sem,seval]
 refine za9 rfl ?_
 have hb:(!(decide (x.v<0)==decide (y.v<0)))=(decide (x.v<0) != decide (y.v<0)):=rfl
 simp only[go_sem,seval,ht,hb,hs]
attribute [go_sem] zkc
theorem zjG (a w i:Nat) (hw0:0<w) (hi:i≠0):(a/4294967296^i%w*4294967296+dgt a (i-1))%w=a/4294967296^(i-1)%w∧(a/4294967296^i%w*4294967296+dgt a (i-1))/w=dgt (a/w) (i-1):=by
 have hd:=zas a (i-1)
 have e1:a/4294967296^(i-1)=a/4294967296^i*4294967296+dgt a (i-1):=by
  rw[zaf,show (4294967296:Nat)^i=4294967296^(i-1)*4294967296 by rw[←Nat.pow_succ];congr 1;omega,←Nat.div_div_eq_div_mul]
  have:=Nat.div_add_mod (a/4294967296^(i-1)) 4294967296
  omega
 have e2:=Nat.div_add_mod (a/4294967296^i) w
 have hr:a/4294967296^i%w<w:=Nat.mod_lt _ hw0
 generalize a/4294967296^i%w=r at *
 have e3:a/4294967296^(i-1)=(r*4294967296+dgt a (i-1))+w*(4294967296*(a/4294967296^i/w)):=by rw[e1];grind
 constructor
 ·rw[e3,Nat.add_mul_mod_self_left]
 ·rw[zaf (a/w),Nat.div_div_eq_div_mul,Nat.mul_comm w,←Nat.div_div_eq_div_mul,e3,Nat.add_mul_div_left _ _ hw0,Nat.add_mul_mod_self_left]
  rw[Nat.mod_eq_of_lt]
  refine Nat.div_lt_of_lt_mul ?_
  have:(r+1)*4294967296≤w*4294967296:=Nat.mul_le_mul_right _ hr
  omega
theorem zgH {E:PEnv} (hE:E.prog 48=some (.fn zvV)) {n a w:Nat} (ha:a<4294967296^n) (hw:w<4294967296) (hw0:w≠0) (hn:n<1073741824) (hO:E.ovr 48 [Dw n a,(PV.i .u32 ((w:Nat):Int))]=none:=by rfl):pf E 48 [Dw n a,(PV.i .u32 ((w:Nat):Int))]=some (.tu [Dw n (a/w),(PV.i .u32 ((a%w:Nat):Int))]):=by
 refine zaa (xf:=zvV) hE (by simp[zvV]) ?_ hO
 simp only[zvV]
 have hmw:a%w<w:=Nat.mod_lt _ (by omega)
 by_cases hn0:n=0
 ·subst hn0
  have ha0:a=0:=by simpa using ha
  subst ha0
  simp(disch:=omega)only[go_sem,seval,wqq,Int.natCast_zero,Int.add_zero,zcs,Int.reduceLE,Int.reduceToNat,zds,Int.zero_sub,Int.reduceNeg]
  refine zcW ?_
  simp only[zwO]
  simp(disch:=omega)only[go_sem,seval,wqq,Int.lt_irrefl,Int.reduceNeg,Int.reduceLE]
  rw[Nat.zero_div,Nat.zero_mod];rfl
 ·simp(disch:=omega)only[go_sem,seval,wqq,zch]
  refine zan zwO.eq_1 (fun(i:Nat) fr M=>i≤n∧fr 0=Dw n a∧fr 1=(PV.i .u32 ((w:Nat):Int))∧fr 6=.sl 0 0 n n 1∧fr 8=.i .i64 ((i:Int)-1)∧fr 7=.i .u64 ((a/4294967296^i%w:Nat):Int) ∧
   ∃e:Nat,M=[some ⟨tab n fun k=>(PV.i .u32 ((if i≤k then dgt (a/w) k else 0:Nat):Int)),true,e⟩]) (fun i=>i) ?_ n ⟨Nat.le_refl _,by simp only[go_sem,seval],by simp only[go_sem,seval],by simp only[go_sem,seval],by simp only[go_sem,seval],?_,0,?_⟩
  ·rintro i fr M ⟨hi,h0,h1,h6,h8,h7,e,rfl⟩ ih
   by_cases hi0:i=0
   ·subst hi0
    simp only[Nat.pow_zero,Nat.div_one,Nat.zero_le,if_true] at h7 ⊢
    simp(disch:=omega)only[go_sem,seval,wqq,h6,h7,h8,Int.natCast_zero,Int.zero_sub,Int.reduceNeg,Int.reduceLE]
    rw[if_neg hn0];rfl
   ·have hc0:((0:Int)≤(i:Int)-1)=True:=by simp;omega
    have i1:((i:Int)-1)=((i-1:Nat):Int):=by omega
    have hr:a/4294967296^i%w<w:=Nat.mod_lt _ (by omega)
    have hd:=zas a (i-1)
    have hd2:=zas (a/w) (i-1)
    have hin:i-1<n:=by omega
    obtain⟨k1,k2⟩:=zjG a w i (by omega) hi0
    have hr2:a/4294967296^(i-1)%w<w:=Nat.mod_lt _ (by omega)
    simp(disch:=omega)only[go_sem,seval,wqq,h0,h1,h6,h7,h8,hc0,i1,zaV,Int.reduceToNat,Nat.reducePow,zdY,zbn,zcd,zar,hin,k1,k2]
    have i2:(((i-1:Nat):Int)-1)=((i:Int)-1)-1:=by omega
    refine ih (i-1) _ _ (by omega) ⟨by omega,by simp only[go_sem,seval,h0],by simp only[go_sem,seval,h1],by simp only[go_sem,seval,h6],by simp only[go_sem,seval],by simp only[go_sem,seval],e+1,?_⟩
    congr 3
    refine zae fun k hk=>?_
    by_cases hki:k=i-1
    ·subst hki
     rw[if_pos rfl,if_pos (Nat.le_refl _)]
    ·rw[if_neg hki]
     congr 2
     by_cases h:i≤k
     ·rw[if_pos h,if_pos (by omega)]
     ·rw[if_neg h,if_neg (by omega)]
  ·rw[Nat.div_eq_of_lt ha,Nat.zero_mod];simp only[go_sem,seval];try rfl
  ·rw[zb7]
   congr 3
   refine zae fun k hk=>?_
   rw[if_neg (by omega)];rfl
theorem zmA {n a w:Nat} (ha:a<4294967296^n) (hw:w<4294967296) (hw0:w≠0) (hn:n<1073741824):pf E0 48 [Dw n a,(PV.i .u32 ((w:Nat):Int))]=some (.tu [Dw n (a/w),(PV.i .u32 ((a%w:Nat):Int))]):=zgH rfl ha hw hw0 hn
theorem zcX {v n:Nat} (h:v<4294967296^n):wlen v≤n:=zaS.2 h
theorem zfV {n:Int} (h:Fits64 n):wlen n.natAbs≤512:=by
 obtain⟨h1,h2⟩:=h
 have:wlen n.natAbs≤2:=zcX (by omega)
 omega
def wiOf (n:Int) (h:Fits64 n):WI:=⟨n,zfV h⟩
theorem zdv {n:Int} (h:Fits64 n):pf E0 34 [.i .i64 n]=some (wiP (wiOf n h)):=by
 refine zaa (xf:=zwC) rfl (by simp[zwC]) ?_
 simp only[zwC]
 obtain⟨h1,h2⟩:=h
 have hlt:n.natAbs<4294967296^2:=by omega
 have hs:=zaA (decide (n<0)) 2 n.natAbs hlt (by omega)
 have hw:wlen n.natAbs≤512:=by have:=zcX hlt;omega
 rw[za7 (by simpa using hw)] at hs
 have e1:(if decide (n<0)=true then-((n.natAbs:Nat):Int) else ((n.natAbs:Nat):Int))=n:=by
  by_cases hn:n<0<;>simp[hn]<;>omega
 rw[e1,zbI hw] at hs
 have hD:Dw 2 n.natAbs=.lst [(PV.i .u32 ((n.natAbs%4294967296:Nat):Int)),(PV.i .u32 ((n.natAbs/4294967296:Nat):Int))]:=by
  have e:tab 2 (fun k=>(PV.i .u32 ((dgt n.natAbs k:Nat):Int)))=[(PV.i .u32 ((dgt n.natAbs 0:Nat):Int)),(PV.i .u32 ((dgt n.natAbs 1:Nat):Int))]:=rfl
  have:n.natAbs/4294967296^1%4294967296=n.natAbs/4294967296:=by rw[Nat.pow_one];exact Nat.mod_eq_of_lt (by omega)
  rw[Dw,e,zaf,zaf,this,Nat.pow_zero,Nat.div_one]
 rw[hD] at hs
 by_cases hn:n<0
 ·have u1:IntKind.wrap .u64 (0-IntKind.wrap .u64 n)=(n.natAbs:Int):=by rw[zdJ,zdJ];omega
  have hd:decide (n<0)=true:=by simp[hn]
  rw[hd] at hs
  simp(disch:=omega)only[go_sem,seval,wqq,hn,u1,zba,Int.reduceToNat,Nat.reducePow,group,hs,List.headD_cons]
  simp only[zdF,wiOf,hd]
 ·have u1:IntKind.wrap .u64 n=(n.natAbs:Int):=by rw[zdJ];omega
  have hd:decide (n<0)=false:=by simp;omega
  rw[hd] at hs
  simp(disch:=omega)only[go_sem,seval,wqq,hn,u1,zba,Int.reduceToNat,Nat.reducePow,group,hs,List.headD_cons]
  simp only[zdF,wiOf,hd]
def isSmall (z:Int):Bool:=decide (-9223372036854775808≤z∧z≤9223372036854775807)
def small (z:Int):Int:=if isSmall z then z else 0
end Go.Eng
namespace Go.Eng
def len8 (j:Nat):Nat:=if j=0 then 0 else Nat.log2 j+1
set_option maxRecDepth 20000 in
theorem zfp:∀j:Fin 256,(xs_1d3e63[j.val]?).map UInt8.toNat=some (len8 j.val):=by decide+kernel
theorem zew {j:Nat} (h:j<256):len8 j≤8:=by
 unfold len8
 split
 ·omega
 ·have:Nat.log2 j<8:=(Nat.log2_lt (by omega)).2 (by omega)
  omega
theorem zjY {j:Nat} (h:j<256):istrP (.s xs_1d3e63) (some j)=some (.i .u8 (len8 j:Int)):=by
 have:=zfp ⟨j,h⟩
 rw[zlZ]
 simp only[Option.map_eq_some_iff] at this ⊢
 obtain⟨c,h1,h2⟩:=this
 exact⟨c,h1,by rw[h2]⟩
theorem zdV {x s:Nat} (h:2^s≤x):Nat.log2 x=Nat.log2 (x/2^s)+s:=by
 induction s generalizing x with
 | zero=>simp
 | succ s ih =>
  have h2:2≤x:=Nat.le_trans (by rw[Nat.pow_succ];have:=Nat.pow_pos (n:=s) (show 0<2 by decide);omega) h
  rw[Nat.log2_def,if_pos h2,ih (x:=x/2) (by rw[Nat.le_div_iff_mul_le (by decide),←Nat.pow_succ];exact h),Nat.div_div_eq_div_mul,show 2*2^s=2^(s+1) by rw[Nat.pow_succ,Nat.mul_comm]]
  omega
theorem zl2 {x:Nat} (h:65536≤x):Nat.log2 x=Nat.log2 (x/65536)+16:=zdV (s:=16) h
theorem zk2 {x:Nat} (h:256≤x):Nat.log2 x=Nat.log2 (x/256)+8:=zdV (s:=8) h
def bits32 (x:Nat):Nat:=if x=0 then 0 else Nat.log2 x+1
theorem zms (x:Nat) (hx:x<4294967296):pf E0 76 [(PV.i .u32 ((x:Nat):Int))]=some (.i .i64 (bits32 x:Int)):=by
 refine zaa (xf:=zvG) rfl (by simp[zvG]) ?_
 simp only[zvG]
 have shr:∀(y:Nat) (s:Int),0≤s→s≤32→binP .shr (.i .u32 (y:Int)) (.i .u64 s)=some (.i .u32 ((y/2^s.toNat:Nat):Int)):=fun y s h1 h2=>by
  rw[zfu _ _ _ _ h1,show min s.toNat (IntKind.bits .u32)=s.toNat by simp only[IntKind.bits];omega,show ((2:Int)^s.toNat)=((2^s.toNat:Nat):Int) by simp,zfc]
 have hfold:=fun(j:Nat) (h:j<256)=>zjY h
 have hb:∀y:Nat,y≠0→len8 y=Nat.log2 y+1:=fun y h=>by unfold len8;rw[if_neg h]
 have b0:bits32 x=len8 x:=rfl
 by_cases h1:65536≤x
 ·have c1:((65536:Int)≤(x:Int))=True:=by simp;omega
  have l1:=zl2 h1
  by_cases h2:256≤x/65536
  ·have c2:((256:Int)≤((x/65536:Nat):Int))=True:=by simp;omega
   have l2:=zk2 h2
   have l3:=zew (j:=x/65536/256) (by omega)
   have l4:=hb (x/65536/256) (by omega)
   have l5:=hb x (by omega)
   simp(disch:=omega)only[go_sem,seval,wqq,c1,c2,shr,hfold]
   rw[b0];congr 2;omega
  ·have c2:((256:Int)≤((x/65536:Nat):Int))=False:=by simp;omega
   have l3:=zew (j:=x/65536) (by omega)
   have l4:=hb (x/65536) (by omega)
   have l5:=hb x (by omega)
   simp(disch:=omega)only[go_sem,seval,wqq,c1,c2,shr,hfold]
   rw[b0];congr 2;omega
 ·have c1:((65536:Int)≤(x:Int))=False:=by simp;omega
  by_cases h2:256≤x
  ·have c2:((256:Int)≤(x:Int))=True:=by simp;omega
   have l2:=zk2 h2
   have l3:=zew (j:=x/256) (by omega)
   have l4:=hb (x/256) (by omega)
   have l5:=hb x (by omega)
   simp(disch:=omega)only[go_sem,seval,wqq,c1,c2,shr,hfold]
   rw[b0];congr 2;omega
  ·have c2:((256:Int)≤(x:Int))=False:=by simp;omega
   have l3:=zew (j:=x) (by omega)
   simp(disch:=omega)only[go_sem,seval,wqq,c1,c2,shr,hfold]
   rw[b0];congr 2;omega
theorem zeU {x:Nat} (h:x<4294967296):bits32 x≤32:=by
 unfold bits32
 split
 ·omega
 ·have:Nat.log2 x<32:=(Nat.log2_lt (by omega)).2 (by omega)
  omega
theorem zom (x:Nat) (hx:x<4294967296):pf E0 55 [(PV.i .u32 ((x:Nat):Int))]=some (.i .i64 ((32-bits32 x:Nat):Int)):=by
 refine zaa (xf:=zvl) rfl (by simp[zvl]) ?_
 simp only[zvl]
 have:=zeU hx
 simp(disch:=omega)only[go_sem,seval,wqq,zms]
 congr 2;omega
theorem zl1 {x:Nat} (hx:x<4294967296) (h0:x≠0):2147483648≤x*2^(32-bits32 x)∧x*2^(32-bits32 x)<4294967296∧32-bits32 x<32:=by
 have hb:=zeU hx
 have h1:2^Nat.log2 x≤x:=Nat.log2_self_le h0
 have h2:x<2^(Nat.log2 x+1):=Nat.lt_log2_self
 unfold bits32 at *
 rw[if_neg h0] at *
 refine⟨?_,?_,by omega⟩
 ·have:2^Nat.log2 x*2^(32-(Nat.log2 x+1))≤x*2^(32-(Nat.log2 x+1)):=Nat.mul_le_mul_right _ h1
  rw[←Nat.pow_add,show Nat.log2 x+(32-(Nat.log2 x+1))=31 by omega] at this
  omega
 ·have:x*2^(32-(Nat.log2 x+1))<2^(Nat.log2 x+1)*2^(32-(Nat.log2 x+1)):=Nat.mul_lt_mul_of_pos_right h2 (Nat.pow_pos (by decide))
  rw[←Nat.pow_add,show Nat.log2 x+1+(32-(Nat.log2 x+1))=32 by omega] at this
  omega
theorem zaU (M:PM) (b:Option PB):PM.blk (M++[b]) M.length=b:=by
 unfold PM.blk;cases b<;>simp
theorem zbR (M:PM) (b c:Option PB):(M++[b]).set M.length c=M++[c]:=by simp[List.set_append]
theorem zju {x y:Nat} (hx:x<4294967296) (hy:y<4294967296):binP .or (.i .u32 (x:Int)) (.i .u32 (y:Int))=some (.i .u32 ((x ||| y:Nat):Int)):=by
 have h:(BitVec.ofInt 32 (x:Int) ||| BitVec.ofInt 32 (y:Int)).toNat=x ||| y:=by
  rw[BitVec.toNat_or,BitVec.ofInt_natCast,BitVec.ofInt_natCast,BitVec.toNat_ofNat,BitVec.toNat_ofNat,Nat.mod_eq_of_lt (by omega),Nat.mod_eq_of_lt (by omega)]
 have hlt:x ||| y<2^32:=Nat.or_lt_two_pow (by omega) (by omega)
 have h2:binP .or (.i .u32 (x:Int)) (.i .u32 (y:Int))=some (.i .u32 (IntKind.wrap .u32 (((BitVec.ofInt 32 (x:Int) ||| BitVec.ofInt 32 (y:Int)).toNat:Nat):Int))):=rfl
 rw[h2,h,wqc (by omega) (by omega)]
theorem zhk {x by_ c:Nat} (hb:by_<32) (hx:x<4294967296) (hc:c<2^by_):c ||| x*2^by_%4294967296=(c+x*2^by_)%4294967296∧(c+x*2^by_)/4294967296=x*2^by_/4294967296∧x*2^by_/4294967296<2^by_:=by
 have e:(4294967296:Nat)=2^by_*2^(32-by_):=by rw[←Nat.pow_add,show by_+(32-by_)=32 by omega]
 have hp:0<2^by_:=Nat.pow_pos (by decide)
 have h1:x*2^by_%4294967296=2^by_*(x%2^(32-by_)):=by rw[e,Nat.mul_comm x,Nat.mul_mod_mul_left]
 have h2:x*2^by_/4294967296=x/2^(32-by_):=by rw[e,Nat.mul_comm x,Nat.mul_div_mul_left _ _ hp]
 have h3:x%2^(32-by_)<2^(32-by_):=Nat.mod_lt _ (Nat.pow_pos (by decide))
 have h4:2^by_*(x%2^(32-by_)+1)≤2^by_*2^(32-by_):=Nat.mul_le_mul_left _ h3
 rw[←e,Nat.mul_add] at h4
 have h5:=Nat.div_add_mod (x*2^by_) 4294967296
 rw[h1] at h5
 refine⟨?_,?_,?_⟩
 ·rw[h1,Nat.or_comm,←Nat.two_pow_add_eq_or_of_lt hc]
  omega
 ·omega
 ·rw[h2,Nat.div_lt_iff_lt_mul (Nat.pow_pos (by decide)),←e];exact hx
theorem zfn {F:PFin} {ks:List KI} {n a by_ e0:Nat} (M0:PM) (hn:n<1073741824) (hb:by_<32) (ha:a<4294967296^n) {fr:PFr} {M:PM} (h1:fr 1=.i .i64 (by_:Int)) (h5:fr 5=.sl M0.length 0 (n+1) (n+1) 1) (h13:fr 13=Dw n a) (h14:fr 14=.i .i64 (n:Int)) (h15:fr 15=.i .i64 0)
  (hM:M=M0++[some ⟨List.replicate (n+1) (.i .u32 0),true,e0⟩])
  (cont:∀fr' e,fr' 5=.sl M0.length 0 (n+1) (n+1) 1→UK E0 F (.exit 0) ks fr' (M0++[some ⟨tab (n+1) (fun k=>(PV.i .u32 ((dgt (a*2^by_) k:Nat):Int))),true,e⟩])):WK E0 F (.loop zwq) ks fr M:=by
 refine zan zwq.eq_1 (fun(i:Nat) fr M=>i≤n∧fr 1=.i .i64 (by_:Int)∧fr 5=.sl M0.length 0 (n+1) (n+1) 1∧fr 13=Dw n a∧fr 14=.i .i64 (n:Int)∧fr 15=.i .i64 (i:Int) ∧
  ∃c e:Nat,M=M0++[some ⟨tab (n+1) fun k=>(PV.i .u32 ((if k<i then dgt (a*2^by_) k else if k=i then c else 0:Nat):Int)),true,e⟩]∧c<2^by_∧a%4294967296^i*2^by_=(a*2^by_)%4294967296^i+4294967296^i*c)
  (fun i=>n-i) ?_ 0 ⟨Nat.zero_le _,h1,h5,h13,h14,h15,0,e0,?_,Nat.pow_pos (by decide),by simp[Nat.mod_one]⟩
 ·rintro i fr M ⟨hi,h1,h5,h13,h14,h15,c,e,rfl,hc,hinv⟩ ih
  by_cases hin:i<n
  ·have hc0:((i:Int)<(n:Int))=True:=by simp;omega
   have i1:((i:Int)+1)=((i+1:Nat):Int):=by omega
   have hd:=zas a i
   have hin1:i<n+1:=by omega
   have hin2:i+1<n+1:=by omega
   have hp32:2^by_<4294967296:=by
    have:=Nat.pow_lt_pow_right (show 1<2 by decide) hb
    omega
   have hv:dgt a i*2^by_<18446744073709551616:=by
    have:=Nat.mul_lt_mul'' hd hp32
    omega
   have hsh:binP .shl (.i .u64 (dgt a i:Int)) (.i .i64 (by_:Int))=some (.i .u64 ((dgt a i*2^by_:Nat):Int)):=by
    rw[zft _ _ _ (by omega) (by omega),Int.toNat_natCast,wqb (by omega) (by omega)]
   obtain⟨w1,w2,w3⟩:=zhk hb hd hc
   have hget:(tab (n+1) fun k=>(PV.i .u32 ((if k<i then dgt (a*2^by_) k else if k=i then c else 0:Nat):Int)))[i]?=some (PV.i .u32 ((c:Nat):Int)):=by rw[zaL hin1,if_neg (by omega),if_pos rfl]
   simp(disch:=omega)only[go_sem,seval,wqq,h1,h5,h13,h14,h15,hc0,i1,zaV,hsh,hin1,hin2,zaU,zbR,zar,hget,zba,zju,w1]
   obtain⟨k1,k2⟩:=zfy (P:=4294967296^i) (T:=a%4294967296^i*2^by_) (s:=a*2^by_) (c:=c) (d:=dgt a i*2^by_) (r:=a/(4294967296^i*4294967296)*2^by_) (zbu i) hinv (by
    have:=zbV a i
    generalize a/(4294967296^i*4294967296)=q at *
    generalize a%4294967296^i=r at *
    generalize 4294967296^i=p at *
    generalize dgt a i=d at *
    generalize 2^by_=t at *
    subst this
    grind)
   refine ih (i+1) _ _ (by omega) ⟨by omega,by simp only[go_sem,seval,h1],by simp only[go_sem,seval,h5],by simp only[go_sem,seval,h13],by simp only[go_sem,seval,h14],by simp only[go_sem,seval],dgt a i*2^by_/4294967296,e+1+1,?_,w3,?_⟩
   ·congr 4
    refine zae fun k hk=>?_
    by_cases h1:k=i+1
    ·subst h1
     rw[if_pos rfl,if_neg (by omega),if_pos rfl]
    ·rw[if_neg h1]
     by_cases h2:k=i
     ·subst h2
      rw[if_pos rfl,if_pos (by omega)]
      congr 2;rw[zaf (a*2^by_)];exact k1.symm
     ·rw[if_neg h2]
      congr 2
      by_cases h3:k<i
      ·rw[if_pos h3,if_pos (by omega)]
      ·rw[if_neg h3,if_neg (by omega),if_neg (by omega),if_neg (by omega)]
   ·rw[←w2,Nat.pow_succ,←k2,←Nat.pow_succ,zaB]
    grind
  ·have hc0:((i:Int)<(n:Int))=False:=by simp;omega
   obtain rfl:i=n:=by omega
   simp only[go_sem,seval,h14,h15,hc0]
   rw[Nat.mod_eq_of_lt ha] at hinv
   have hcd:c=dgt (a*2^by_) i:=by
    have h1:=Nat.div_add_mod (a*2^by_) (4294967296^i)
    have h2:(a*2^by_)/4294967296^i=c:=Nat.eq_of_mul_eq_mul_left (zbu i) (by omega)
    rw[zaf,h2,Nat.mod_eq_of_lt]
    have:=Nat.pow_lt_pow_right (show 1<2 by decide) hb
    omega
   have ht:(tab (i+1) fun k=>(PV.i .u32 ((if k<i then dgt (a*2^by_) k else if k=i then c else 0:Nat):Int)))=tab (i+1) fun k=>(PV.i .u32 ((dgt (a*2^by_) k:Nat):Int)):=zae fun k hk=>by
    by_cases h:k<i
    ·rw[if_pos h]
    ·rw[if_neg h,if_pos (by omega),hcd,show k=i by omega]
   rw[ht]
   exact cont _ e (by simp only[go_sem,seval,h5])
 ·rw[hM,zb7]
  congr 4
  refine zae fun k hk=>?_
  by_cases h:k=0
  ·rw[if_neg (by omega),if_pos h];rfl
  ·rw[if_neg (by omega),if_neg h];rfl
theorem zfj {n a by_:Nat} (M:PM) (hn:n<1073741824) (hb:by_<32) (ha:a<4294967296^n):∃e,pcl E0 56 [Dw n a,.i .i64 (by_:Int)] M=some (.sl M.length 0 (n+1) (n+1) 1,M++[some ⟨tab (n+1) (fun k=>(PV.i .u32 ((dgt (a*2^by_) k:Nat):Int))),true,e⟩]):=by
 have key:∃v M',pcl E0 56 [Dw n a,.i .i64 (by_:Int)] M=some (v,M')∧v=.sl M.length 0 (n+1) (n+1) 1∧∃e,M'=M++[some ⟨tab (n+1) (fun k=>(PV.i .u32 ((dgt (a*2^by_) k:Nat):Int))),true,e⟩]:=by
  refine zeF (xf:=zvU) rfl rfl (by simp[zvU]) ?_
  simp only[zvU]
  have n1:((n:Int)+1)=((n+1:Nat):Int):=by omega
  simp(disch:=omega)only[go_sem,seval,wqq,n1,zch]
  refine zfn M hn hb ha (by simp only[go_sem,seval]) (by simp only[go_sem,seval]) (by simp only[go_sem,seval]) (by simp only[go_sem,seval]) (by simp only[go_sem,seval]) rfl fun fr' e g5=>?_
  simp only[go_sem,seval,g5]
  exact⟨e,rfl⟩
 obtain⟨v,M',h,rfl,e,rfl⟩:=key
 exact⟨e,h⟩
end Go.Eng
namespace Go.Eng
theorem zbv {x:Int} (h:0≤x):binP .shr (.i .u64 x) (.i .u64 63)=some (.i .u64 (x/9223372036854775808)):=by
 rw[zfu _ _ _ _ (by omega),show min (63:Int).toNat (IntKind.bits .u64)=63 by decide,Int.fdiv_eq_ediv_of_nonneg _ (by omega)]
 rfl
theorem zf4 {L X j k:Nat} (hL:L<4294967296^j):dgt (L+4294967296^j*X) k=if j≤k then dgt X (k-j) else dgt L k:=by
 split
 ·rename_i h
  rw[zaf,zaf,show (4294967296:Nat)^k=4294967296^j*4294967296^(k-j) by rw[←Nat.pow_add];congr 1;omega,←Nat.div_div_eq_div_mul,Nat.add_mul_div_left _ _ (zbu j),Nat.div_eq_of_lt hL,Nat.zero_add]
 ·rename_i h
  rw[zaf,zaf,show (4294967296:Nat)^j=4294967296^k*(4294967296*4294967296^(j-k-1)) by rw[←Nat.pow_succ',←Nat.pow_add];congr 1;omega,Nat.mul_assoc,Nat.add_mul_div_left _ _ (zbu k),Nat.mul_assoc,Nat.add_mul_mod_self_left]
theorem zbd {U j i:Nat}:dgt U (j+i)=dgt (U/4294967296^j) i:=by
 rw[zaf,zaf,Nat.pow_add,←Nat.div_div_eq_div_mul]
theorem zlE {U j k:Nat} (h:k<j):dgt (U%4294967296^j) k=dgt U k:=by
 have:=zf4 (L:=U%4294967296^j) (X:=U/4294967296^j) (j:=j) (k:=k) (Nat.mod_lt _ (zbu j))
 rw[Nat.mod_add_div,if_neg (by omega)] at this
 exact this.symm
theorem zhG {X n i b:Nat} (h:i<n):dgt (X+4294967296^n*b) i=dgt X i:=by
 rw[zaf,zaf,show (4294967296:Nat)^n=4294967296^i*(4294967296*4294967296^(n-i-1)) by rw[←Nat.pow_succ',←Nat.pow_add];congr 1;omega,Nat.mul_assoc,Nat.add_mul_div_left _ _ (zbu i),Nat.mul_assoc,Nat.add_mul_mod_self_left]
set_option maxHeartbeats 2000000 in
theorem zjd {F:PFin} {ks:List KI} {n N U v q j X' bo e0 cap cv:Nat} {b1:Nat} {rest:PM} (hn:n<1073741824) (hj:j+(n+1)≤N) (hN:N<1073741824) (hv:v<4294967296^n) (hq:q<4294967296) (hbo:bo≤1)
  (hX:U/4294967296^j+4294967296^(n+1)*bo=X'+q*v) {fr:PFr} {M:PM} (h0:fr 0=.sl 0 j (n+1) cap 1) (h1:fr 1=.sl 1 0 n cv 1) (h2:fr 2=.i .u64 (q:Int)) (h7:fr 7=.i .u64 0) (h8:fr 8=.i .u64 0) (h13:fr 13=.i .i64 ((n+1:Nat):Int)) (h14:fr 14=.i .i64 0)
  (hM:M=some ⟨tab N fun k=>(PV.i .u32 ((dgt U k:Nat):Int)),true,e0⟩::some ⟨tab (n+1) fun k=>(PV.i .u32 ((dgt v k:Nat):Int)),true,b1⟩::rest)
  (cont:∀fr' e (c:Nat),fr' 8=.i .u64 (c:Int)→c≤1→X'%4294967296^(n+1)+(q*v)%4294967296^(n+1)=(U/4294967296^j+4294967296^(n+1)*bo)%4294967296^(n+1)+4294967296^(n+1)*c →
   UK E0 F (.exit 0) ks fr' (some ⟨tab N fun k=>(PV.i .u32 ((if j≤k∧k<j+(n+1) then dgt X' (k-j) else dgt U k:Nat):Int)),true,e⟩::some ⟨tab (n+1) fun k=>(PV.i .u32 ((dgt v k:Nat):Int)),true,b1⟩::rest)):WK E0 F (.loop zwp) ks fr M:=by
 refine zan zwp.eq_1 (fun(i:Nat) fr M=>i≤n+1∧fr 0=.sl 0 j (n+1) cap 1∧fr 1=.sl 1 0 n cv 1∧fr 2=.i .u64 (q:Int)∧fr 13=.i .i64 ((n+1:Nat):Int)∧fr 14=.i .i64 (i:Int) ∧
  ∃cy c e:Nat,fr 7=.i .u64 (cy:Int)∧fr 8=.i .u64 (c:Int)∧M=some ⟨tab N fun k=>(PV.i .u32 ((if j≤k∧k<j+i then dgt X' (k-j) else dgt U k:Nat):Int)),true,e⟩::some ⟨tab (n+1) fun k=>(PV.i .u32 ((dgt v k:Nat):Int)),true,b1⟩::rest∧cy<4294967296∧c≤1 ∧
   q*(v%4294967296^i)=(q*v)%4294967296^i+4294967296^i*cy∧X'%4294967296^i+(q*v)%4294967296^i=(U/4294967296^j+4294967296^(n+1)*bo)%4294967296^i+4294967296^i*c)
  (fun i=>n+1-i) ?_ 0 ⟨Nat.zero_le _,h0,h1,h2,h13,h14,0,0,e0,h7,h8,?_,by decide,by decide,by simp[Nat.mod_one],by simp[Nat.mod_one]⟩
 ·rintro i fr M ⟨hi,h0,h1,h2,h13,h14,cy,c,e,h7,h8,rfl,hcy,hc,hinv1,hinv2⟩ ih
  by_cases hin:i<n+1
  ·have hc0:((i:Int)<((n+1:Nat):Int))=True:=by simp;omega
   have i1:((i:Int)+1)=((i+1:Nat):Int):=by omega
   have hdv:=zas v i
   have hdx:=zas X' i
   have hdu:=zas U (j+i)
   have hdA:dgt (U/4294967296^j+4294967296^(n+1)*bo) i=dgt U (j+i):=by rw[zhG hin,zbd]
   have hji:j+i<N:=by omega
   have hget:(tab N fun k=>(PV.i .u32 ((if j≤k∧k<j+i then dgt X' (k-j) else dgt U k:Nat):Int)))[j+i]?=some (PV.i .u32 ((dgt U (j+i):Nat):Int)):=by rw[zaL hji,if_neg (by omega)]
   have hmul:q*dgt v i≤4294967295*4294967295:=Nat.mul_le_mul (by omega) (by omega)
   obtain⟨k1,k2⟩:=zfy (P:=4294967296^i) (T:=q*(v%4294967296^i)) (s:=q*v) (c:=cy) (d:=q*dgt v i) (r:=q*(v/(4294967296^i*4294967296))) (zbu i) hinv1 (by
    have:=zbV v i
    generalize v/(4294967296^i*4294967296)=z at *
    generalize v%4294967296^i=r at *
    generalize 4294967296^i=p at *
    generalize dgt v i=d at *
    subst this
    grind)
   have k1':dgt (q*v) i=(cy+q*dgt v i)%4294967296:=by rw[zaf (q*v)];exact k1
   obtain⟨k3,k4⟩:=zfy (P:=4294967296^i) (T:=X'%4294967296^i+(q*v)%4294967296^i) (s:=U/4294967296^j+4294967296^(n+1)*bo) (c:=c) (d:=dgt X' i+dgt (q*v) i) (r:=X'/(4294967296^i*4294967296)+q*v/(4294967296^i*4294967296)) (zbu i) hinv2 (by
    rw[hX]
    have h1:=zbV X' i
    have h2:=zbV (q*v) i
    rw[Nat.mul_add,Nat.mul_add];omega)
   rw[←zaf,hdA,k1'] at k3
   have fin:∀(t:Int) fr',t=(dgt X' i:Int)→fr' 0=.sl 0 j (n+1) cap 1→fr' 1=.sl 1 0 n cv 1→fr' 2=.i .u64 (q:Int)→fr' 13=.i .i64 ((n+1:Nat):Int)→fr' 14=.i .i64 ((i+1:Nat):Int)→fr' 7=.i .u64 (((cy+q*dgt v i)/4294967296:Nat):Int)→fr' 8=.i .u64 (((c+(dgt X' i+(cy+q*dgt v i)%4294967296))/4294967296:Nat):Int) →
     WK E0 F (.loop zwp) ks fr' (some ⟨tab N fun k=>if k=j+i then .i .u32 t else (PV.i .u32 ((if j≤k∧k<j+i then dgt X' (k-j) else dgt U k:Nat):Int)),true,e+1⟩::some ⟨tab (n+1) fun k=>(PV.i .u32 ((dgt v k:Nat):Int)),true,b1⟩::rest):=by
    intro t fr' ht g0 g1 g2 g13 g14 g7 g8
    refine ih (i+1) _ _ (by omega) ⟨by omega,g0,g1,g2,g13,g14,_,_,e+1,g7,g8,?_,by omega,by omega,?_,?_⟩
    ·congr 3
     refine zae fun k hk=>?_
     by_cases hki:k=j+i
     ·subst hki
      rw[if_pos rfl,if_pos (by omega),ht,show j+i-j=i by omega]
     ·rw[if_neg hki]
      congr 2
      by_cases h:j≤k∧k<j+i
      ·rw[if_pos h,if_pos (by omega)]
      ·rw[if_neg h,if_neg (by omega)]
    ·rw[Nat.pow_succ,←k2,←Nat.pow_succ,zaB];grind
    ·rw[k1'] at k4
     rw[Nat.pow_succ,←k4,←Nat.pow_succ,zaB X',zaB (q*v),k1',Nat.mul_add];omega
   have hpl:(cy+q*dgt v i)%4294967296<4294967296:=Nat.mod_lt _ (by decide)
   have p64:cy+q*dgt v i<18446744073709551616:=by omega
   have wneg:∀x:Int,-1≤x→x<0→IntKind.wrap .u64 x=18446744073709551615:=fun x h1 h2=>by rw[zdJ];omega
   have wneg2:∀x:Int,-4294967296≤x→x<0→IntKind.wrap .u64 x=18446744073709551616+x:=fun x h1 h2=>by rw[zdJ];omega
   by_cases him:i<n
   ·have hc1:((i:Int)<(n:Int))=True:=by simp;omega
    have hgv:(tab (n+1) fun k=>(PV.i .u32 ((dgt v k:Nat):Int)))[i]?=some (PV.i .u32 ((dgt v i:Nat):Int)):=zaL (by omega)
    have hww:((cy:Int)+(q:Int)*(dgt v i:Int))=((cy+q*dgt v i:Nat):Int):=by simp
    have hqq:IntKind.wrap .u64 ((q:Int)*(dgt v i:Int))=(q:Int)*(dgt v i:Int):=by
     have:((q:Int)*(dgt v i:Int))=((q*dgt v i:Nat):Int):=by simp
     rw[this,wqb (by omega) (by omega)]
    generalize hp:cy+q*dgt v i=p at *
    by_cases hle:p%4294967296+c≤dgt U (j+i)
    ·simp(disch:=omega)only[go_sem,seval,wqq,h0,h1,h2,h7,h8,h13,h14,hc0,hc1,i1,hget,hgv,him,hin,hqq,hww,zba,hji,zar,zbv]
     exact fin _ _ (by omega) (by simp only[go_sem,seval,h0]) (by simp only[go_sem,seval,h1]) (by simp only[go_sem,seval,h2]) (by simp only[go_sem,seval,h13]) (by simp only[go_sem,seval]) (by simp only[go_sem,seval]) (by simp only[go_sem,seval];congr 1;omega)
    ·by_cases hle2:p%4294967296≤dgt U (j+i)
     ·simp(disch:=omega)only[go_sem,seval,wqq,h0,h1,h2,h7,h8,h13,h14,hc0,hc1,i1,hget,hgv,him,hin,hqq,hww,zba,hji,zar,zbv,wneg,zdI]
      exact fin _ _ (by omega) (by simp only[go_sem,seval,h0]) (by simp only[go_sem,seval,h1]) (by simp only[go_sem,seval,h2]) (by simp only[go_sem,seval,h13]) (by simp only[go_sem,seval]) (by simp only[go_sem,seval]) (by simp only[go_sem,seval];congr 1;omega)
     ·simp(disch:=omega)only[go_sem,seval,wqq,h0,h1,h2,h7,h8,h13,h14,hc0,hc1,i1,hget,hgv,him,hin,hqq,hww,zba,hji,zar,zbv,wneg2,zdI]
      exact fin _ _ (by omega) (by simp only[go_sem,seval,h0]) (by simp only[go_sem,seval,h1]) (by simp only[go_sem,seval,h2]) (by simp only[go_sem,seval,h13]) (by simp only[go_sem,seval]) (by simp only[go_sem,seval]) (by simp only[go_sem,seval];congr 1;omega)
   ·have hc1:((i:Int)<(n:Int))=False:=by simp;omega
    have hz:dgt v i=0:=zbp hv (by omega)
    simp only[hz,Nat.mul_zero,Nat.add_zero] at fin k3 hpl p64
    by_cases hle:cy%4294967296+c≤dgt U (j+i)
    ·simp(disch:=omega)only[go_sem,seval,wqq,h0,h1,h2,h7,h8,h13,h14,hc0,hc1,i1,hget,hin,zba,hji,zar,zbv]
     exact fin _ _ (by omega) (by simp only[go_sem,seval,h0]) (by simp only[go_sem,seval,h1]) (by simp only[go_sem,seval,h2]) (by simp only[go_sem,seval,h13]) (by simp only[go_sem,seval]) (by simp only[go_sem,seval]) (by simp only[go_sem,seval];congr 1;omega)
    ·by_cases hle2:cy%4294967296≤dgt U (j+i)
     ·simp(disch:=omega)only[go_sem,seval,wqq,h0,h1,h2,h7,h8,h13,h14,hc0,hc1,i1,hget,hin,zba,hji,zar,zbv,wneg,zdI]
      exact fin _ _ (by omega) (by simp only[go_sem,seval,h0]) (by simp only[go_sem,seval,h1]) (by simp only[go_sem,seval,h2]) (by simp only[go_sem,seval,h13]) (by simp only[go_sem,seval]) (by simp only[go_sem,seval]) (by simp only[go_sem,seval];congr 1;omega)
     ·simp(disch:=omega)only[go_sem,seval,wqq,h0,h1,h2,h7,h8,h13,h14,hc0,hc1,i1,hget,hin,zba,hji,zar,zbv,wneg2,zdI]
      exact fin _ _ (by omega) (by simp only[go_sem,seval,h0]) (by simp only[go_sem,seval,h1]) (by simp only[go_sem,seval,h2]) (by simp only[go_sem,seval,h13]) (by simp only[go_sem,seval]) (by simp only[go_sem,seval]) (by simp only[go_sem,seval];congr 1;omega)
  ·have hc0:((i:Int)<((n+1:Nat):Int))=False:=by simp;omega
   obtain rfl:i=n+1:=by omega
   simp only[go_sem,seval,h13,h14,hc0]
   exact cont _ e c (by simp only[go_sem,seval,h8]) hc hinv2
 ·rw[hM]
  congr 3
  refine zae fun k hk=>?_
  rw[if_neg (by omega)]
end Go.Eng
namespace Go.Eng
theorem zgk {N n j U X':Nat} (hU:U<4294967296^(j+(n+1))) (hX:X'<4294967296^(n+1)):(tab N fun k=>(PV.i .u32 ((if j≤k∧k<j+(n+1) then dgt X' (k-j) else dgt U k:Nat):Int)))=tab N fun k=>(PV.i .u32 ((dgt (U%4294967296^j+4294967296^j*X') k:Nat):Int)):=by
 refine zae fun k hk=>?_
 congr 2
 rw[zf4 (Nat.mod_lt _ (zbu j))]
 by_cases h1:j≤k
 ·rw[if_pos h1]
  by_cases h2:k<j+(n+1)
  ·rw[if_pos ⟨h1,h2⟩]
  ·rw[if_neg (by omega),zbp hU (by omega),zbp hX (by omega)]
 ·rw[if_neg (by omega),if_neg h1,zlE (by omega)]
theorem zli {n N U v q j X' bo e0 cap cv b1:Nat} {rest:PM} (hn:n<1073741824) (hj:j+(n+1)≤N) (hN:N<1073741824) (hv:v<4294967296^n) (hq:q<4294967296) (hbo:bo≤1)
  (hU:U<4294967296^(j+(n+1))) (hX':X'<4294967296^(n+1)) (hX:U/4294967296^j+4294967296^(n+1)*bo=X'+q*v) :
  ∃e,pcl E0 57 [.sl 0 j (n+1) cap 1,.sl 1 0 n cv 1,.i .u64 (q:Int)] (some ⟨tab N fun k=>(PV.i .u32 ((dgt U k:Nat):Int)),true,e0⟩::some ⟨tab (n+1) fun k=>(PV.i .u32 ((dgt v k:Nat):Int)),true,b1⟩::rest) =
   some (.b (decide (bo=1)),some ⟨tab N fun k=>(PV.i .u32 ((dgt (U%4294967296^j+4294967296^j*X') k:Nat):Int)),true,e⟩::some ⟨tab (n+1) fun k=>(PV.i .u32 ((dgt v k:Nat):Int)),true,b1⟩::rest):=by
 have key:∃w M',pcl E0 57 [.sl 0 j (n+1) cap 1,.sl 1 0 n cv 1,.i .u64 (q:Int)] (some ⟨tab N fun k=>(PV.i .u32 ((dgt U k:Nat):Int)),true,e0⟩::some ⟨tab (n+1) fun k=>(PV.i .u32 ((dgt v k:Nat):Int)),true,b1⟩::rest)=some (w,M') ∧
   w=.b (decide (bo=1))∧∃e,M'=some ⟨tab N fun k=>(PV.i .u32 ((dgt (U%4294967296^j+4294967296^j*X') k:Nat):Int)),true,e⟩::some ⟨tab (n+1) fun k=>(PV.i .u32 ((dgt v k:Nat):Int)),true,b1⟩::rest:=by
  refine zeF (xf:=zwu) rfl rfl (by simp[zwu]) ?_
  simp only[zwu]
  simp(disch:=omega)only[go_sem,seval,wqq]
  refine zjd (cap:=cap) (cv:=cv) hn hj hN hv hq hbo hX (by simp only[go_sem,seval]) (by simp only[go_sem,seval]) (by simp only[go_sem,seval]) (by simp only[go_sem,seval]) (by simp only[go_sem,seval]) (by simp only[go_sem,seval]) (by simp only[go_sem,seval]) rfl fun fr' e c g8 hc hinv=>?_
  rw[zgk hU hX']
  have hXlt:U/4294967296^j<4294967296^(n+1):=by
   rw[Nat.div_lt_iff_lt_mul (zbu j),←Nat.pow_add,Nat.add_comm (n+1)];exact hU
  have hqv:q*v<4294967296^(n+1):=by
   rw[Nat.pow_succ,Nat.mul_comm]
   exact Nat.mul_lt_mul'' hv hq
  rw[Nat.mod_eq_of_lt hX',Nat.mod_eq_of_lt hqv,Nat.add_mul_mod_self_left,Nat.mod_eq_of_lt hXlt] at hinv
  have hcb:c=bo:=by
   have:=zbu (n+1)
   exact Nat.eq_of_mul_eq_mul_left this (by omega)
  simp only[go_sem,seval,g8]
  refine⟨?_,e,rfl⟩
  congr 1
  exact decide_eq_decide.2 (by omega)
 obtain⟨w,M',h,rfl,e,rfl⟩:=key
 exact⟨e,h⟩
theorem zd2 (b0 b1 b2:Option PB) (Cs:PM) (c v e:Nat) (h:c+v<18446744073709551616) :
  pcl E0 77 [.i .u64 (v:Int),.p (Cs.length+1+1+1) 0] (b0::b1::b2::(Cs++[some ⟨[.i .u64 (c:Int)],true,e⟩]))=some ((PV.i .u32 (((c+v)%4294967296:Nat):Int)),b0::b1::b2::(Cs++[some ⟨[.i .u64 (((c+v)/4294967296:Nat):Int)],true,e+2⟩])):=by
 have hb:PM.blk (b0::b1::b2::(Cs++[some ⟨[.i .u64 (c:Int)],true,e⟩])) (Cs.length+1+1+1)=some ⟨[.i .u64 (c:Int)],true,e⟩:=by
  rw[zef,zef,zef,zaU]
 rw[zcN _ _ c v e hb h]
 congr 2
 rw[List.set_cons_succ,List.set_cons_succ,List.set_cons_succ,zbR]
set_option maxHeartbeats 1000000 in
theorem zjr {F:PFin} {ks:List KI} {n N U v j X' X'' e0 cap cv:Nat} {b1:Nat} {b2:Option PB} {Cs:PM} (hn:n<1073741824) (hj:j+(n+1)≤N) (hN:N<1073741824) (hv:v<4294967296^n)
  (hXU:U/4294967296^j=X') (hX:X'+v=X''+4294967296^(n+1)) {O out I:PV} {fr:PFr} {M:PM} (h9:fr 9=.sl 0 0 N cap 1) (h10:fr 10=.sl 1 0 n cv 1) (h11:fr 11=.i .i64 (n:Int)) (h15:fr 15=.i .i64 (j:Int)) (h19:fr 19=.fn 77 [.p (Cs.length+1+1+1) 0]) (h169:fr 169=.i .i64 ((n+1:Nat):Int)) (h170:fr 170=.i .i64 0)
  (h12:fr 12=O) (h13:fr 13=out) (h14:fr 14=I) (S:PV) (h8:fr 8=S)
  (hM:M=some ⟨tab N fun k=>(PV.i .u32 ((dgt U k:Nat):Int)),true,e0⟩::some ⟨tab (n+1) fun k=>(PV.i .u32 ((dgt v k:Nat):Int)),true,b1⟩::b2::(Cs++[some ⟨[.i .u64 0],true,0⟩]))
  (cont:∀fr' e cb,fr' 8=S→fr' 9=.sl 0 0 N cap 1→fr' 10=.sl 1 0 n cv 1→fr' 11=.i .i64 (n:Int)→fr' 12=O→fr' 13=out→fr' 14=I→fr' 15=.i .i64 (j:Int) →
   UK E0 F (.exit 4) ks fr' (some ⟨tab N fun k=>(PV.i .u32 ((if j≤k∧k<j+(n+1) then dgt X'' (k-j) else dgt U k:Nat):Int)),true,e⟩::some ⟨tab (n+1) fun k=>(PV.i .u32 ((dgt v k:Nat):Int)),true,b1⟩::b2::(Cs++[cb]))):WK E0 F (.loop zv5) ks fr M:=by
 refine zan zv5.eq_1 (fun(i:Nat) fr M=>i≤n+1∧fr 9=.sl 0 0 N cap 1∧fr 10=.sl 1 0 n cv 1∧fr 11=.i .i64 (n:Int)∧fr 15=.i .i64 (j:Int)∧fr 19=.fn 77 [.p (Cs.length+1+1+1) 0]∧fr 169=.i .i64 ((n+1:Nat):Int)∧fr 170=.i .i64 (i:Int)∧fr 12=O∧fr 13=out∧fr 14=I∧fr 8=S ∧
  ∃c e e2:Nat,M=some ⟨tab N fun k=>(PV.i .u32 ((if j≤k∧k<j+i then dgt X'' (k-j) else dgt U k:Nat):Int)),true,e⟩::some ⟨tab (n+1) fun k=>(PV.i .u32 ((dgt v k:Nat):Int)),true,b1⟩::b2::(Cs++[some ⟨[.i .u64 (c:Int)],true,e2⟩])∧c≤1∧X'%4294967296^i+v%4294967296^i=(X''+4294967296^(n+1)*1)%4294967296^i+4294967296^i*c)
  (fun i=>n+1-i) ?_ 0 ⟨Nat.zero_le _,h9,h10,h11,h15,h19,h169,h170,h12,h13,h14,h8,0,e0,0,?_,Nat.zero_le _,by simp[Nat.mod_one]⟩
 ·rintro i fr M ⟨hi,h9,h10,h11,h15,h19,h169,h170,h12,h13,h14,h8,c,e,e2,rfl,hc,hinv⟩ ih
  by_cases hin:i<n+1
  ·have hc0:((i:Int)<((n+1:Nat):Int))=True:=by simp;omega
   have i1:((i:Int)+1)=((i+1:Nat):Int):=by omega
   have hji0:((j:Int)+(i:Int))=((j+i:Nat):Int):=by omega
   have da:=zas U (j+i)
   have db:=zas v i
   have hji:j+i<N:=by omega
   have hget:(tab N fun k=>(PV.i .u32 ((if j≤k∧k<j+i then dgt X'' (k-j) else dgt U k:Nat):Int)))[j+i]?=some (PV.i .u32 ((dgt U (j+i):Nat):Int)):=by rw[zaL hji,if_neg (by omega)]
   have hUX:dgt U (j+i)=dgt X' i:=by rw[zbd,hXU]
   have fin:∀w fr' e e2,w=dgt U (j+i)+dgt v i→fr' 9=.sl 0 0 N cap 1→fr' 10=.sl 1 0 n cv 1→fr' 11=.i .i64 (n:Int)→fr' 15=.i .i64 (j:Int)→fr' 19=.fn 77 [.p (Cs.length+1+1+1) 0]→fr' 169=.i .i64 ((n+1:Nat):Int)→fr' 170=.i .i64 ((i+1:Nat):Int)→fr' 12=O→fr' 13=out→fr' 14=I→fr' 8=S →
     WK E0 F (.loop zv5) ks fr' (some ⟨tab N fun k=>if k=j+i then (PV.i .u32 (((c+w)%4294967296:Nat):Int)) else (PV.i .u32 ((if j≤k∧k<j+i then dgt X'' (k-j) else dgt U k:Nat):Int)),true,e⟩::some ⟨tab (n+1) fun k=>(PV.i .u32 ((dgt v k:Nat):Int)),true,b1⟩::b2::(Cs++[some ⟨[.i .u64 (((c+w)/4294967296:Nat):Int)],true,e2⟩])):=by
    intro w fr' e e2 hw g9 g10 g11 g15 g19 g169 g170 g12 g13 g14 g8
    subst hw
    rw[hUX]
    have sa:=zbV X' i
    have sb:=zbV v i
    obtain⟨k1,k2⟩:=zfy (P:=4294967296^i) (T:=X'%4294967296^i+v%4294967296^i) (s:=X''+4294967296^(n+1)*1) (c:=c) (d:=dgt X' i+dgt v i) (r:=X'/(4294967296^i*4294967296)+v/(4294967296^i*4294967296)) (zbu i) hinv (by rw[Nat.mul_add,Nat.mul_add,Nat.mul_one,←hX];omega)
    rw[←zaf,zhG hin] at k1
    have ha:=zas X' i
    refine ih (i+1) fr' _ (by omega) ⟨by omega,g9,g10,g11,g15,g19,g169,g170,g12,g13,g14,g8,(c+(dgt X' i+dgt v i))/4294967296,e,e2,?_,by omega,?_⟩
    ·congr 3
     refine zae fun k hk=>?_
     by_cases hki:k=j+i
     ·subst hki
      rw[if_pos rfl,if_pos (by omega),show j+i-j=i by omega,k1]
     ·rw[if_neg hki]
      congr 2
      by_cases h:j≤k∧k<j+i
      ·rw[if_pos h,if_pos (by omega)]
      ·rw[if_neg h,if_neg (by omega)]
    ·rw[zaB,zaB v,show (4294967296:Nat)^(i+1)=4294967296^i*4294967296 from Nat.pow_succ ..,←k2,Nat.mul_add];omega
   by_cases him:i<n
   ·have hc1:((i:Int)<(n:Int))=True:=by simp;omega
    have hgv:(tab (n+1) fun k=>(PV.i .u32 ((dgt v k:Nat):Int)))[i]?=some (PV.i .u32 ((dgt v i:Nat):Int)):=zaL (by omega)
    simp(disch:=omega)only[go_sem,seval,wqq,zbe,zbN,zbO,zax,zbi,zcy,h9,h10,h11,h15,h19,h169,h170,hc0,hc1,hji0,hget,hgv,him,hji,zd2,zar]
    exact fin _ _ _ _ rfl (by simp only[go_sem,seval,h9]) (by simp only[go_sem,seval,h10]) (by simp only[go_sem,seval,h11]) (by simp only[go_sem,seval,h15]) (by simp only[go_sem,seval,h19]) (by simp only[go_sem,seval,h169]) (by simp only[go_sem,seval]) (by simp only[go_sem,seval,h12]) (by simp only[go_sem,seval,h13]) (by simp only[go_sem,seval,h14]) (by simp only[go_sem,seval,h8])
   ·have hc1:((i:Int)<(n:Int))=False:=by simp;omega
    have hz:dgt v i=0:=zbp hv (by omega)
    simp(disch:=omega)only[go_sem,seval,wqq,zbe,zbN,zbO,zax,zbi,zcy,h9,h10,h11,h15,h19,h169,h170,hc0,hc1,hji0,hget,hji,zd2,zar,Int.add_zero]
    exact fin _ _ _ _ (by omega) (by simp only[go_sem,seval,h9]) (by simp only[go_sem,seval,h10]) (by simp only[go_sem,seval,h11]) (by simp only[go_sem,seval,h15]) (by simp only[go_sem,seval,h19]) (by simp only[go_sem,seval,h169]) (by simp only[go_sem,seval]) (by simp only[go_sem,seval,h12]) (by simp only[go_sem,seval,h13]) (by simp only[go_sem,seval,h14]) (by simp only[go_sem,seval,h8])
  ·have hc0:((i:Int)<((n+1:Nat):Int))=False:=by simp;omega
   obtain rfl:i=n+1:=by omega
   simp only[go_sem,seval,h169,h170,hc0]
   exact cont _ e _ (by simp only[go_sem,seval,h8]) (by simp only[go_sem,seval,h9]) (by simp only[go_sem,seval,h10]) (by simp only[go_sem,seval,h11]) (by simp only[go_sem,seval,h12]) (by simp only[go_sem,seval,h13]) (by simp only[go_sem,seval,h14]) (by simp only[go_sem,seval,h15])
 ·rw[hM]
  congr 3
  refine zae fun k hk=>?_
  rw[if_neg (by omega)]
end Go.Eng
namespace Go.Eng
theorem zmG {n:Nat} (h:1≤n):4294967296^(n-1)*4294967296=4294967296^n:=by rw[←Nat.pow_succ];congr 1;omega
theorem ztQ {X n:Nat} (hn:2≤n) (hX:X<4294967296^(n+1)):X/4294967296^(n-2)=(dgt X n*4294967296+dgt X (n-1))*4294967296+dgt X (n-2):=by
 have e1:X/4294967296^(n-2)/4294967296=X/4294967296^(n-1):=by rw[Nat.div_div_eq_div_mul,←Nat.pow_succ];congr 2;omega
 have e2:X/4294967296^(n-1)/4294967296=X/4294967296^n:=by rw[Nat.div_div_eq_div_mul,←Nat.pow_succ];congr 2;omega
 have e3:X/4294967296^n<4294967296:=by rw[Nat.div_lt_iff_lt_mul (zbu n),Nat.mul_comm,←Nat.pow_succ];exact hX
 rw[zaf,zaf,zaf]
 generalize X/4294967296^(n-2)=x0 at *
 generalize X/4294967296^(n-1)=x1 at *
 generalize X/4294967296^n=x2 at *
 omega
theorem zuF {v n:Nat} (hn:2≤n) (hv:v<4294967296^n):v/4294967296^(n-2)=dgt v (n-1)*4294967296+dgt v (n-2):=by
 have e1:v/4294967296^(n-2)/4294967296=v/4294967296^(n-1):=by rw[Nat.div_div_eq_div_mul,←Nat.pow_succ];congr 2;omega
 have e3:v/4294967296^(n-1)<4294967296:=by rw[Nat.div_lt_iff_lt_mul (zbu _),Nat.mul_comm,zmG (by omega)];exact hv
 rw[zaf,zaf]
 generalize v/4294967296^(n-2)=x0 at *
 generalize v/4294967296^(n-1)=x1 at *
 omega
theorem zny {X v n d:Nat} (hv:0<v) (h:X/4294967296^(n-2)<d*(v/4294967296^(n-2))):X/v<d:=by
 rw[Nat.div_lt_iff_lt_mul hv]
 have h1:=Nat.lt_mul_div_succ X (zbu (n-2))
 have h2:=Nat.div_mul_le_self v (4294967296^(n-2))
 calc X<4294967296^(n-2)*(X/4294967296^(n-2)+1):=h1
  _≤4294967296^(n-2)*(d*(v/4294967296^(n-2))):=Nat.mul_le_mul_left _ h
  _=d*(v/4294967296^(n-2)*4294967296^(n-2)):=by grind
  _≤d*v:=Nat.mul_le_mul_left _ h2
theorem zkT {X v n d:Nat} (hv:0<v) (hd:d<4294967296) (hv2:4294967296≤v/4294967296^(n-2)) (h:d*(v/4294967296^(n-2))≤X/4294967296^(n-2)):d≤X/v+1:=by
 by_cases hc:d≤X/v+1
 ·exact hc
 ·exfalso
  have hd2:2≤d:=by have:=Nat.zero_le (X/v);generalize X/v=z at *;omega
  have h1:X/v<d-1:=by generalize X/v=z at *;omega
  rw[Nat.div_lt_iff_lt_mul hv] at h1
  have h2:=Nat.div_mul_le_self X (4294967296^(n-2))
  have h3:=Nat.lt_mul_div_succ v (zbu (n-2))
  have h4:d*(v/4294967296^(n-2))*4294967296^(n-2)≤X:=Nat.le_trans (Nat.mul_le_mul_right _ h) h2
  have h5:(d-1)*v≤(d-1)*(4294967296^(n-2)*(v/4294967296^(n-2)+1)):=Nat.mul_le_mul_left _ (Nat.le_of_lt h3)
  have h6:d*(v/4294967296^(n-2))*4294967296^(n-2)<(d-1)*(v/4294967296^(n-2)+1)*4294967296^(n-2):=by
   refine Nat.lt_of_le_of_lt h4 (Nat.lt_of_lt_of_le h1 (Nat.le_trans h5 (Nat.le_of_eq ?_)))
   grind
  have h7:d*(v/4294967296^(n-2))<(d-1)*(v/4294967296^(n-2)+1):=Nat.lt_of_mul_lt_mul_right h6
  generalize v/4294967296^(n-2)=w at *
  obtain⟨e,rfl⟩:∃e,d=e+1:=⟨d-1,by omega⟩
  simp only[Nat.add_sub_cancel,Nat.add_mul,Nat.mul_add,Nat.one_mul,Nat.mul_one] at h7
  omega
set_option maxHeartbeats 1000000 in
theorem zjL {F:PFin} {ks:List KI} {n N U v j d r cap:Nat} {e0:Nat} {rest:PM} (hn2:2≤n) (hn:n<1073741824) (hj:j+(n+1)≤N) (hN:N<1073741824) (hv:v<4294967296^n) (htop:2147483648≤dgt v (n-1))
  (hXv:U/4294967296^j<v*4294967296) {fr:PFr} {M:PM} (P:PFr→Prop) (hP:∀fr:PFr,P fr→∀k x,17≤k→P (fr.put k x)) (hPf:P fr) (h9:∀fr,P fr→fr 9=.sl 0 0 N cap 1) (h11:∀fr,P fr→fr 11=.i .i64 (n:Int)) (h13:∀fr,P fr→fr 13=.i .u64 (dgt v (n-1):Int)) (h14:∀fr,P fr→fr 14=.i .u64 (dgt v (n-2):Int)) (h15:∀fr,P fr→fr 15=.i .i64 (j:Int))
  (h17:fr 17=.i .u64 (d:Int)) (h18:fr 18=.i .u64 (r:Int)) (hr:r<4294967296) (hd:dgt U (j+n)*4294967296+dgt U (j+(n-1))=d*dgt v (n-1)+r) (hqd:U/4294967296^j/v≤d)
  (hM:M=some ⟨tab N fun k=>(PV.i .u32 ((dgt U k:Nat):Int)),true,e0⟩::rest)
  (cont:∀fr' d,P fr'→fr' 17=.i .u64 ((d:Nat):Int)→d<4294967296→U/4294967296^j/v≤d→d≤U/4294967296^j/v+1→UK E0 F (.exit 2) ks fr' M):WK E0 F (.loop zv3) ks fr M:=by
 have hvpos:0<v:=by
  rcases Nat.eq_zero_or_pos v with h|h
  ·rw[h,zc8] at htop;omega
  ·exact h
 have hXlt:U/4294967296^j<4294967296^(n+1):=by
  rw[Nat.pow_succ]
  exact Nat.lt_of_lt_of_le hXv (Nat.mul_le_mul_right _ (Nat.le_of_lt hv))
 have p3:=ztQ hn2 hXlt
 have p2:=zuF hn2 hv
 rw[←zbd,←zbd,←zbd] at p3
 have hu2:=zas U (j+(n-2))
 have hu1:=zas U (j+(n-1))
 have hun:=zas U (j+n)
 have hnx:=zas v (n-2)
 have htp:=zas v (n-1)
 have htopX:dgt U (j+n)≤dgt v (n-1):=by
  have h1:U/4294967296^j/4294967296^n≤v/4294967296^(n-1):=by
   have:4294967296^n=4294967296^(n-1)*4294967296:=by rw[←Nat.pow_succ];congr 1;omega
   rw[this,←Nat.div_div_eq_div_mul,Nat.div_div_eq_div_mul,Nat.mul_comm,←Nat.div_div_eq_div_mul]
   exact Nat.div_le_div_right (Nat.div_le_of_le_mul (by omega))
  have h2:U/4294967296^j/4294967296^n<4294967296:=by rw[Nat.div_lt_iff_lt_mul (zbu n),Nat.mul_comm,←Nat.pow_succ];exact hXlt
  have h3:v/4294967296^(n-1)<4294967296:=by rw[Nat.div_lt_iff_lt_mul (zbu _),Nat.mul_comm,zmG (by omega)];exact hv
  rw[zbd,zaf,zaf]
  generalize U/4294967296^j/4294967296^n=x0 at *
  generalize v/4294967296^(n-1)=x1 at *
  omega
 refine zan zv3.eq_1 (fun(d:Nat) fr M'=>P fr∧M'=M∧U/4294967296^j/v≤d∧∃r:Nat,fr 17=.i .u64 (d:Int)∧fr 18=.i .u64 (r:Int)∧r<4294967296∧dgt U (j+n)*4294967296+dgt U (j+(n-1))=d*dgt v (n-1)+r) (fun d=>d) ?_ d ⟨hPf,rfl,hqd,r,h17,h18,hr,hd⟩
 rintro d fr M' ⟨hp,rfl,hqd,r,h17,h18,hr,hd⟩ ih
 have h9:=h9 fr hp
 have h11':=h11 fr hp
 have h13':=h13 fr hp
 have h14':=h14 fr hp
 have h15':=h15 fr hp
 have hdB:d*2147483648≤d*dgt v (n-1):=Nat.mul_le_mul_left _ htop
 have d3:d<12884901888:=by omega
 have less:0<d→U/4294967296^j/v<d→∀fr',P fr'→fr' 17=.i .u64 ((d-1:Nat):Int)→fr' 18=.i .u64 ((r+dgt v (n-1):Nat):Int)→(r+dgt v (n-1)<4294967296→WK E0 F (.loop zv3) ks fr' M')∧(4294967296≤r+dgt v (n-1)→UK E0 F (.exit 2) ks fr' M'):=by
  intro h0 hlt fr' hp' g17 g18
  have e1:d*dgt v (n-1)=(d-1)*dgt v (n-1)+dgt v (n-1):=by
   obtain⟨e,rfl⟩:∃e,d=e+1:=⟨d-1,by omega⟩
   rw[Nat.add_mul,Nat.one_mul,Nat.add_sub_cancel]
  refine⟨fun hlt2=>ih (d-1) fr' _ (by omega) ⟨hp',rfl,by omega,r+dgt v (n-1),g17,g18,hlt2,by omega⟩,fun hge=>?_⟩
  have hd1:(d-1)*dgt v (n-1)<4294967296*dgt v (n-1):=by omega
  have hd2:d-1<4294967296:=Nat.lt_of_mul_lt_mul_right hd1
  refine cont fr' (d-1) hp' g17 hd2 (by omega) (zkT hvpos hd2 (by rw[p2];omega) ?_)
  rw[p2,p3]
  have h1:(d-1)*dgt v (n-2)≤(d-1)*4294967296:=Nat.mul_le_mul_left _ (by omega)
  have h2:(d-1)*(dgt v (n-1)*4294967296+dgt v (n-2))=(d-1)*dgt v (n-1)*4294967296+(d-1)*dgt v (n-2):=by rw[Nat.mul_add,Nat.mul_assoc]
  have h3:(dgt U (j+n)*4294967296+dgt U (j+(n-1)))*4294967296=(d-1)*dgt v (n-1)*4294967296+(r+dgt v (n-1))*4294967296:=by rw[hd,e1];grind
  omega
 have hXB:U/4294967296^j/v<4294967296:=by rw[Nat.div_lt_iff_lt_mul hvpos,Nat.mul_comm];exact hXv
 have pj:((j:Int)+(n:Int))=((j+n:Nat):Int):=by omega
 have pj2:(((j+n:Nat):Int)-2)=((j+(n-2):Nat):Int):=by omega
 have hlt:j+(n-2)<N:=by omega
 have hget:(tab N fun k=>(PV.i .u32 ((dgt U k:Nat):Int)))[j+(n-2)]?=some (PV.i .u32 ((dgt U (j+(n-2)):Nat):Int)):=zaL hlt
 have hblk:PM.blk M' 0=some ⟨tab N fun k=>(PV.i .u32 ((dgt U k:Nat):Int)),true,e0⟩:=by rw[hM];rfl
 have d1:0<d→((d:Int)-1)=((d-1:Nat):Int):=fun h=>by omega
 have rt:((r:Int)+(dgt v (n-1):Int))=((r+dgt v (n-1):Nat):Int):=by omega
 by_cases hdb:d<4294967296
 ·have hs0:d/4294967296=0:=Nat.div_eq_of_lt hdb
  have hmul:d*dgt v (n-2)≤4294967295*4294967295:=Nat.mul_le_mul (by omega) (by omega)
  have hmm:((d:Int)*(dgt v (n-2):Int))=((d*dgt v (n-2):Nat):Int):=by simp
  by_cases ht:r*4294967296+dgt U (j+(n-2))<d*dgt v (n-2)
  ·have hd0:0<d:=by
    rcases Nat.eq_zero_or_pos d with h|h
    ·rw[h,Nat.zero_mul] at ht;omega
    ·exact h
   have hdlt:U/4294967296^j/v<d:=by
    refine zny (n:=n) hvpos ?_
    have h3:d*(dgt v (n-1)*4294967296+dgt v (n-2))=d*dgt v (n-1)*4294967296+d*dgt v (n-2):=by rw[Nat.mul_add,Nat.mul_assoc]
    rw[p2,p3,hd,h3,Nat.add_mul,Nat.add_assoc]
    exact Nat.add_lt_add_left ht _
   have hc:(((r*4294967296+dgt U (j+(n-2)):Nat):Int)<((d*dgt v (n-2):Nat):Int))=True:=by simp;omega
   by_cases hb:r+dgt v (n-1)<4294967296
   ·have hc2:((0:Int)<(((r+dgt v (n-1))/4294967296:Nat):Int))=False:=by rw[Nat.div_eq_of_lt hb];simp
    simp(disch:=omega)only[go_sem,seval,wqq,h9,h11',h13',h14',h15',h17,h18,hs0,Int.natCast_zero,Int.lt_irrefl,hmm,pj,pj2,hlt,hblk,hget,zdY,hc,d1 hd0,rt,hc2]
    refine(less hd0 hdlt _ ?_ (by simp only[go_sem,seval]) (by simp only[go_sem,seval])).1 hb
    repeat (first|exact hp|refine hP _ ?_ _ _ (by omega))
   ·have hc2:((0:Int)<(((r+dgt v (n-1))/4294967296:Nat):Int))=True:=by
     have:0<(r+dgt v (n-1))/4294967296:=Nat.div_pos (by omega) (by decide)
     simp;omega
    simp(disch:=omega)only[go_sem,seval,wqq,h9,h11',h13',h14',h15',h17,h18,hs0,Int.natCast_zero,Int.lt_irrefl,hmm,pj,pj2,hlt,hblk,hget,zdY,hc,d1 hd0,rt,hc2]
    refine(less hd0 hdlt _ ?_ (by simp only[go_sem,seval]) (by simp only[go_sem,seval])).2 (by omega)
    repeat (first|exact hp|refine hP _ ?_ _ _ (by omega))
  ·have hc:(((r*4294967296+dgt U (j+(n-2)):Nat):Int)<((d*dgt v (n-2):Nat):Int))=False:=by simp;omega
   simp(disch:=omega)only[go_sem,seval,wqq,h9,h11',h13',h14',h15',h17,h18,hs0,Int.natCast_zero,Int.lt_irrefl,hmm,pj,pj2,hlt,hblk,hget,zdY,hc]
   refine cont _ d ?_ (by simp only[go_sem,seval,h17]) hdb hqd (zkT hvpos hdb (by rw[p2];omega) ?_)
   ·repeat (first|exact hp|refine hP _ ?_ _ _ (by omega))
   ·have h3:d*(dgt v (n-1)*4294967296+dgt v (n-2))=d*dgt v (n-1)*4294967296+d*dgt v (n-2):=by rw[Nat.mul_add,Nat.mul_assoc]
    rw[p2,p3,hd,h3,Nat.add_mul,Nat.add_assoc]
    exact Nat.add_le_add_left (by omega) _
 ·have hd0:0<d:=by omega
  have hs:((0:Int)<((d/4294967296:Nat):Int))=True:=by
   have:0<d/4294967296:=Nat.div_pos (by omega) (by decide)
   simp;omega
  by_cases hb:r+dgt v (n-1)<4294967296
  ·have hc2:((0:Int)<(((r+dgt v (n-1))/4294967296:Nat):Int))=False:=by rw[Nat.div_eq_of_lt hb];simp
   simp(disch:=omega)only[go_sem,seval,wqq,h9,h11',h13',h14',h15',h17,h18,hs,d1 hd0,rt,hc2]
   refine(less hd0 (by omega) _ ?_ (by simp only[go_sem,seval]) (by simp only[go_sem,seval])).1 hb
   repeat (first|exact hp|refine hP _ ?_ _ _ (by omega))
  ·have hc2:((0:Int)<(((r+dgt v (n-1))/4294967296:Nat):Int))=True:=by
    have:0<(r+dgt v (n-1))/4294967296:=Nat.div_pos (by omega) (by decide)
    simp;omega
   simp(disch:=omega)only[go_sem,seval,wqq,h9,h11',h13',h14',h15',h17,h18,hs,d1 hd0,rt,hc2]
   refine(less hd0 (by omega) _ ?_ (by simp only[go_sem,seval]) (by simp only[go_sem,seval])).2 (by omega)
   repeat (first|exact hp|refine hP _ ?_ _ _ (by omega))
end Go.Eng
namespace Go.Eng
structure DivP (n N L:Nat) (S:PV) (top nxt:Nat) (fr:PFr):Prop where
 s8:fr 8=S
 s9:fr 9=.sl 0 0 N N 1
 s10:fr 10=.sl 1 0 n (n+1) 1
 s11:fr 11=.i .i64 (n:Int)
 s12:fr 12=.sl 2 0 L L 1
 s13:fr 13=.i .u64 (top:Int)
 s14:fr 14=.i .u64 (nxt:Int)
theorem zb5 {fr:PFr} {k d:Nat} {x:PV} (h:d<k):fr.put k x d=fr d:=by
 rw[zmK,if_neg (by omega)]
theorem DivP.put {n N L:Nat} {S:PV} {top nxt:Nat} {fr:PFr} (p:DivP n N L S top nxt fr) {k:Nat} {x:PV} (h:15≤k):DivP n N L S top nxt (fr.put k x) :=
 ⟨by rw[zb5 (by omega)];exact p.s8,by rw[zb5 (by omega)];exact p.s9,by rw[zb5 (by omega)];exact p.s10,by rw[zb5 (by omega)];exact p.s11,by rw[zb5 (by omega)];exact p.s12,by rw[zb5 (by omega)];exact p.s13,by rw[zb5 (by omega)];exact p.s14⟩
theorem zi0 {A v j:Nat}:A%(v*4294967296^(j+1))/4294967296^j/v=dgt (A/v) j:=by
 rw[Nat.div_div_eq_div_mul,zaf,Nat.div_div_eq_div_mul,Nat.pow_succ,←Nat.mul_assoc,Nat.mul_comm v,Nat.mod_mul_right_div_self]
theorem zi5 {A v j:Nat}:A%(v*4294967296^(j+1))%4294967296^j+4294967296^j*(A%(v*4294967296^(j+1))/4294967296^j%v)=A%(v*4294967296^j):=by
 rw[←Nat.mod_mul,Nat.mul_comm (4294967296^j) v,Nat.mod_mod_of_dvd]
 exact⟨4294967296,by rw[Nat.pow_succ,Nat.mul_assoc]⟩
theorem zlo {n off len cap lo hi:Nat} (h1:lo≤hi) (h2:hi≤cap) (h3:lo<cap):slP 1 (.sl n off len cap 1) (some (.i .i64 (lo:Int))) (some (.i .i64 (hi:Int))) none=some (.sl n (off+lo) (hi-lo) (cap-lo) 1):=by
 simp only[slP,ne_eq,not_true_eq_false,if_false,optP,zaI,Option.isSome_none,Bool.false_eq_true,false_implies,and_true,Nat.le_refl,Nat.mul_one]
 rw[if_pos ⟨h1,h2⟩,if_neg (by omega)]
set_option maxHeartbeats 2000000 in
theorem zjF {F:PFin} {ks:List KI} {n N L A v:Nat} {S:PV} {b1:Nat} (hn2:2≤n) (hNL:N=L+n) (hN:N<1073741824) (hv:v<4294967296^n) (htop:2147483648≤dgt v (n-1)) (hA:A<v*4294967296^L) {fr:PFr} {M:PM} (hp:DivP n N L S (dgt v (n-1)) (dgt v (n-2)) fr) (h15:fr 15=.i .i64 ((L:Int)-1))
  {e0 e2:Nat} (hM:M=some ⟨tab N fun k=>(PV.i .u32 ((dgt A k:Nat):Int)),true,e0⟩::some ⟨tab (n+1) fun k=>(PV.i .u32 ((dgt v k:Nat):Int)),true,b1⟩::some ⟨List.replicate L (.i .u32 0),true,e2⟩::[])
  (cont:∀fr' e0 e2 Cs,DivP n N L S (dgt v (n-1)) (dgt v (n-2)) fr'→UK E0 F (.exit 0) ks fr' (some ⟨tab N fun k=>(PV.i .u32 ((dgt (A%v) k:Nat):Int)),true,e0⟩::some ⟨tab (n+1) fun k=>(PV.i .u32 ((dgt v k:Nat):Int)),true,b1⟩::some ⟨tab L fun k=>(PV.i .u32 ((dgt (A/v) k:Nat):Int)),true,e2⟩::Cs)):WK E0 F (.loop zwE) ks fr M:=by
 have hvpos:0<v:=by
  rcases Nat.eq_zero_or_pos v with h|h
  ·rw[h,zc8] at htop;omega
  ·exact h
 have htp:=zas v (n-1)
 refine zan zwE.eq_1 (fun(k:Nat) fr M=>k≤L∧DivP n N L S (dgt v (n-1)) (dgt v (n-2)) fr∧fr 15=.i .i64 ((k:Int)-1) ∧
  ∃e0 e2 Cs,M=some ⟨tab N fun i=>(PV.i .u32 ((dgt (A%(v*4294967296^k)) i:Nat):Int)),true,e0⟩::some ⟨tab (n+1) fun i=>(PV.i .u32 ((dgt v i:Nat):Int)),true,b1⟩::some ⟨tab L fun i=>(PV.i .u32 ((if k≤i then dgt (A/v) i else 0:Nat):Int)),true,e2⟩::Cs)
  (fun k=>k) ?_ L ⟨Nat.le_refl _,hp,h15,e0,e2,[],?_⟩
 ·rintro k fr M ⟨hk,hp,h15,e0,e2,Cs,rfl⟩ ih
  obtain⟨h8,h9,h10,h11,h12,h13,h14⟩:=id hp
  by_cases hk0:k=0
  ·subst hk0
   simp(disch:=omega)only[go_sem,seval,wqq,h15,Int.natCast_zero,Int.zero_sub]
   have:=cont (fr.put 84 (.i .i64 (-1)) |>.put 85 (.b false)) e0 e2 Cs (DivP.put (DivP.put ⟨h8,h9,h10,h11,h12,h13,h14⟩ (by omega)) (by omega))
   simpa only[Nat.pow_zero,Nat.mul_one,Nat.zero_le,if_true] using this
  ·obtain⟨j,rfl⟩:∃j,k=j+1:=⟨k-1,by omega⟩
   have k1:(((j+1:Nat):Int)-1)=(j:Int):=by omega
   rw[k1] at h15
   generalize hU:A%(v*4294967296^(j+1))=U
   have hUlt:U<v*4294967296^(j+1):=by rw[←hU];exact Nat.mod_lt _ (Nat.mul_pos hvpos (zbu _))
   have hXv:U/4294967296^j<v*4294967296:=by
    rw[Nat.div_lt_iff_lt_mul (zbu j),Nat.mul_assoc,←Nat.pow_succ'];exact hUlt
   have hUB:U<4294967296^(j+(n+1)):=by
    refine Nat.lt_of_lt_of_le hUlt ?_
    rw[show j+(n+1)=n+(j+1) by omega,show (4294967296:Nat)^(n+(j+1))=4294967296^n*4294967296^(j+1) from Nat.pow_add ..]
    exact Nat.mul_le_mul_right _ (Nat.le_of_lt hv)
   have hq:U/4294967296^j/v=dgt (A/v) j:=by rw[←hU];exact zi0
   have hjoin:U%4294967296^j+4294967296^j*(U/4294967296^j%v)=A%(v*4294967296^j):=by rw[←hU];exact zi5
   have pj:((j:Int)+(n:Int))=((j+n:Nat):Int):=by omega
   have pj1:(((j+n:Nat):Int)-1)=((j+(n-1):Nat):Int):=by omega
   have pj2:(((j+n:Nat):Int)+1)=((j+n+1:Nat):Int):=by omega
   have hl0:j+n<N:=by omega
   have hl1:j+(n-1)<N:=by omega
   have hun:=zas U (j+n)
   have hu1:=zas U (j+(n-1))
   have hg0:(tab N fun i=>(PV.i .u32 ((dgt U i:Nat):Int)))[j+n]?=some (PV.i .u32 ((dgt U (j+n):Nat):Int)):=zaL hl0
   have hg1:(tab N fun i=>(PV.i .u32 ((dgt U i:Nat):Int)))[j+(n-1)]?=some (PV.i .u32 ((dgt U (j+(n-1)):Nat):Int)):=zaL hl1
   have htz:((dgt v (n-1):Nat):Int)≠0:=by omega
   have hqlt:(dgt U (j+n)*4294967296+dgt U (j+(n-1)))/dgt v (n-1)≤dgt U (j+n)*4294967296+dgt U (j+(n-1)):=Nat.div_le_self _ _
   have wq:IntKind.wrap .u64 (((dgt U (j+n)*4294967296+dgt U (j+(n-1)))/dgt v (n-1):Nat):Int)=(((dgt U (j+n)*4294967296+dgt U (j+(n-1)))/dgt v (n-1):Nat):Int):=by
    generalize (dgt U (j+n)*4294967296+dgt U (j+(n-1)))/dgt v (n-1)=z at *
    rw[wqb (by omega) (by omega)]
   simp(disch:=omega)only[go_sem,seval,wqq,h9,h10,h11,h12,h13,h14,h15,pj,pj1,hl0,hl1,hg0,hg1,zdY,zbn,zcd,htz,wq]
   refine zjL (N:=N) (e0:=e0) (d:=(dgt U (j+n)*4294967296+dgt U (j+(n-1)))/dgt v (n-1)) (r:=(dgt U (j+n)*4294967296+dgt U (j+(n-1)))%dgt v (n-1)) hn2 (by omega) (by omega) (by omega) hv htop hXv
    (fun fr=>DivP n N L S (dgt v (n-1)) (dgt v (n-2)) fr∧fr 15=.i .i64 (j:Int)) (fun fr h k x hk=>⟨h.1.put (by omega),by rw[zb5 (by omega)];exact h.2⟩) ⟨?_,by simp only[go_sem,seval,h15]⟩ (fun fr h=>h.1.s9) (fun fr h=>h.1.s11) (fun fr h=>h.1.s13) (fun fr h=>h.1.s14) (fun fr h=>h.2) (by simp only[go_sem,seval]) (by simp only[go_sem,seval]) ?_ ?_ ?_ rfl ?_
   ·repeat (first|exact hp|refine DivP.put ?_ (by omega))
   ·exact Nat.lt_trans (Nat.mod_lt _ (by omega)) htp
   ·rw[Nat.mul_comm _ (dgt v (n-1))];exact(Nat.div_add_mod _ _).symm
   ·rw[Nat.le_div_iff_mul_le (by omega)]
    have hXlt:U/4294967296^j<4294967296^(n+1):=by
     rw[Nat.div_lt_iff_lt_mul (zbu j),←Nat.pow_add,Nat.add_comm (n+1)];exact hUB
    have p3:=ztQ hn2 hXlt
    rw[←zbd,←zbd,←zbd] at p3
    have e1:U/4294967296^j/4294967296^(n-1)=dgt U (j+n)*4294967296+dgt U (j+(n-1)):=by
     have e2:U/4294967296^j/4294967296^(n-1)=U/4294967296^j/4294967296^(n-2)/4294967296:=by rw[Nat.div_div_eq_div_mul _ (4294967296^(n-2)),←Nat.pow_succ];congr 2;omega
     have:=zas U (j+(n-2))
     rw[e2,p3];omega
    have e3:dgt v (n-1)*4294967296^(n-1)≤v:=by
     have h1:v/4294967296^(n-1)<4294967296:=by rw[Nat.div_lt_iff_lt_mul (zbu _),Nat.mul_comm,zmG (by omega)];exact hv
     rw[zaf,Nat.mod_eq_of_lt h1]
     exact Nat.div_mul_le_self _ _
    rw[←e1,Nat.le_div_iff_mul_le (zbu _),Nat.mul_assoc]
    exact Nat.le_trans (Nat.mul_le_mul_left _ e3) (Nat.div_mul_le_self _ _)
   ·rintro fr' d ⟨hp',h15'⟩ h17' hdB hqd hdq
    obtain⟨h8,h9,h10,h11,h12,h13,h14⟩:=id hp'
    have hX:=Nat.div_add_mod (U/4294967296^j) v
    have hr:=Nat.mod_lt (U/4294967296^j) hvpos
    generalize hXd:U/4294967296^j=X at *
    generalize hqg:X/v=q at *
    generalize hrg:X%v=r at *
    have hjL:j<L:=by omega
    have hnn:j+n+1-j=n+1:=by omega
    have hin:(U%4294967296^j+4294967296^j*r)=A%(v*4294967296^j):=hjoin
    have hrB:r<4294967296^(n+1):=Nat.lt_trans (Nat.lt_trans hr hv) (Nat.pow_lt_pow_right (by decide) (by omega))
    rcases (show d=q∨d=q+1 by omega) with hd|hd
    ·have hdv:X+4294967296^(n+1)*0=r+d*v:=by rw[Nat.mul_zero,hd,Nat.mul_comm q];omega
     obtain⟨e,htk⟩:=zli (n:=n) (N:=N) (U:=U) (v:=v) (q:=d) (j:=j) (X':=r) (bo:=0) (e0:=e0) (cap:=N-j) (cv:=n+1) (b1:=b1) (rest:=some ⟨tab L fun i=>if i=j then (PV.i .u32 ((d:Nat):Int)) else (PV.i .u32 ((if j+1≤i then dgt (A/v) i else 0:Nat):Int)),true,e2+1⟩::Cs) (by omega) (by omega) (by omega) hv hdB (by omega) hUB hrB (by rw[hXd];exact hdv)
     simp(disch:=omega)only[go_sem,seval,wqq,h9,h10,h11,h12,h13,h14,h15',h17',pj,pj2,hjL,hnn,zar,zlo,htk,hin]
     refine ih j _ _ (by omega) ⟨by omega,?_,by simp only[go_sem,seval],e,e2+1,Cs,?_⟩
     ·repeat (first|exact hp'|refine DivP.put ?_ (by omega))
     ·congr 5
      refine zae fun i hi=>?_
      by_cases h:i=j
      ·subst h
       rw[if_pos rfl,if_pos (Nat.le_refl _),hd,hq]
      ·rw[if_neg h]
       congr 2
       by_cases h2:j+1≤i
       ·rw[if_pos h2,if_pos (by omega)]
       ·rw[if_neg h2,if_neg (by omega)]
    ·have hvB:v<4294967296^(n+1):=Nat.lt_trans hv (Nat.pow_lt_pow_right (by decide) (by omega))
     have hdv:X+4294967296^(n+1)*1=(4294967296^(n+1)+r-v)+d*v:=by rw[Nat.mul_one,hd,Nat.add_mul,Nat.one_mul,Nat.mul_comm q];omega
     obtain⟨e,htk⟩:=zli (n:=n) (N:=N) (U:=U) (v:=v) (q:=d) (j:=j) (X':=4294967296^(n+1)+r-v) (bo:=1) (e0:=e0) (cap:=N-j) (cv:=n+1) (b1:=b1) (rest:=some ⟨tab L fun i=>if i=j then (PV.i .u32 ((d:Nat):Int)) else (PV.i .u32 ((if j+1≤i then dgt (A/v) i else 0:Nat):Int)),true,e2+1⟩::Cs) (by omega) (by omega) (by omega) hv hdB (by omega) hUB (by omega) (by rw[hXd];exact hdv)
     have hgo:(tab L fun i=>if i=j then (PV.i .u32 ((d:Nat):Int)) else (PV.i .u32 ((if j+1≤i then dgt (A/v) i else 0:Nat):Int)))[j]?=some (PV.i .u32 ((d:Nat):Int)):=by rw[zaL hjL,if_pos rfl]
     have hd1:((d:Int)-1)=(q:Int):=by omega
     have hqlt:q<4294967296:=by omega
     simp(disch:=omega)only[go_sem,seval,wqq,h9,h10,h11,h12,h13,h14,h15',h17',pj,pj2,hjL,hnn,zar,zlo,htk,hgo,hd1]
     have hX'j:(U%4294967296^j+4294967296^j*(4294967296^(n+1)+r-v))/4294967296^j=4294967296^(n+1)+r-v:=by
      rw[Nat.add_mul_div_left _ _ (zbu j),Nat.div_eq_of_lt (Nat.mod_lt _ (zbu j)),Nat.zero_add]
     refine zjr (n:=n) (N:=N) (U:=U%4294967296^j+4294967296^j*(4294967296^(n+1)+r-v)) (v:=v) (j:=j) (X':=4294967296^(n+1)+r-v) (X'':=r) (e0:=e) (cap:=N) (cv:=n+1) (b1:=b1) (Cs:=Cs) (O:=.sl 2 0 L L 1) (out:=.i .u64 (dgt v (n-1):Int)) (I:=.i .u64 (dgt v (n-2):Int)) (by omega) (by omega) (by omega) hv hX'j (by omega) (by simp only[go_sem,seval,h9]) (by simp only[go_sem,seval,h10]) (by simp only[go_sem,seval,h11]) (by simp only[go_sem,seval,h15']) (by simp only[go_sem,seval]) (by simp only[go_sem,seval]) (by simp only[go_sem,seval]) (by simp only[go_sem,seval,h12]) (by simp only[go_sem,seval,h13]) (by simp only[go_sem,seval,h14]) S (by simp only[go_sem,seval,h8]) rfl fun fr2 e' cb g8 g9 g10 g11 g12 g13 g14 g15=>?_
     have hU1:U%4294967296^j+4294967296^j*(4294967296^(n+1)+r-v)<4294967296^(j+(n+1)):=by
      rw[show (4294967296:Nat)^(j+(n+1))=4294967296^j*4294967296^(n+1) from Nat.pow_add ..]
      have h1:=Nat.mod_lt U (zbu j)
      have h2:4294967296^j*(4294967296^(n+1)+r-v+1)≤4294967296^j*4294967296^(n+1):=Nat.mul_le_mul_left _ (by omega)
      rw[Nat.mul_succ] at h2
      exact Nat.lt_of_lt_of_le (Nat.add_lt_add_right h1 _) (by rw[Nat.add_comm];exact h2)
     have hU2:(U%4294967296^j+4294967296^j*(4294967296^(n+1)+r-v))%4294967296^j=U%4294967296^j:=by
      rw[Nat.add_mul_mod_self_left,Nat.mod_mod]
     rw[zgk hU1 hrB,hU2,hin]
     simp(disch:=omega)only[go_sem,seval,wqq,g15]
     refine ih j _ _ (by omega) ⟨by omega,?_,by simp only[go_sem,seval],e',e2+1+1,Cs++[cb],?_⟩
     ·exact DivP.put (DivP.put (DivP.put ⟨g8,g9,g10,g11,g12,g13,g14⟩ (by omega)) (by omega)) (by omega)
     ·congr 5
      refine zae fun i hi=>?_
      by_cases h:i=j
      ·subst h
       rw[if_pos rfl,if_pos (Nat.le_refl _),hq]
      ·rw[if_neg h,if_neg h]
       congr 2
       by_cases h2:j+1≤i
       ·rw[if_pos h2,if_pos (by omega)]
       ·rw[if_neg h2,if_neg (by omega)]
 ·rw[hM,Nat.mod_eq_of_lt hA,zb7]
  congr 5
  refine zae fun i hi=>?_
  rw[if_neg (by omega)];rfl
theorem zho {U by_ i:Nat} (hb:by_<32):(dgt U (i+1)*4294967296+dgt U i)/2^by_%4294967296=dgt (U/2^by_) i:=by
 have e:(4294967296:Nat)=2^by_*2^(32-by_):=by rw[←Nat.pow_add,show by_+(32-by_)=32 by omega]
 have hp:0<2^by_:=Nat.pow_pos (by decide)
 have h0:U/4294967296^i=dgt U (i+1)*4294967296+dgt U i+4294967296*(4294967296*(U/4294967296^i/4294967296/4294967296)):=by
  have h1:=Nat.div_add_mod (U/4294967296^i) 4294967296
  have h2:=Nat.div_add_mod (U/4294967296^i/4294967296) 4294967296
  rw[zaf,zaf,Nat.pow_succ,←Nat.div_div_eq_div_mul]
  omega
 have key:∀x y z:Nat,x=y+4294967296*(4294967296*z)→y/2^by_%4294967296=x/2^by_%4294967296:=by
  intro x y z hx
  have e2:4294967296*(4294967296*z)=2^by_*(4294967296*(2^(32-by_)*z)):=by
   have e3:∀w,4294967296*w=2^by_*2^(32-by_)*w:=fun w=>by rw[←e]
   rw[e3,Nat.mul_assoc,Nat.mul_left_comm (2^(32-by_))]
  rw[hx,e2,Nat.add_mul_div_left _ _ hp,Nat.add_mul_mod_self_left]
 rw[zaf (U/2^by_),Nat.div_div_eq_div_mul,Nat.mul_comm (2^by_),←Nat.div_div_eq_div_mul]
 exact key _ _ _ h0
set_option maxHeartbeats 1000000 in
theorem zi6 {F:PFin} {ks:List KI} {n N U by_:Nat} {b1 b2:Option PB} {Cs:PM} {e0 e3:Nat} {O:PV} (hn:n<N) (hN:N<1073741824) (hb:by_<32) {fr:PFr} {M:PM} (h8:fr 8=.i .i64 (by_:Int)) (h9:fr 9=.sl 0 0 N N 1) (h12:fr 12=O) (h22:fr 22=.sl (Cs.length+1+1+1) 0 n n 1) (h201:fr 201=.i .i64 (n:Int)) (h202:fr 202=.i .i64 0)
  (hM:M=some ⟨tab N fun k=>(PV.i .u32 ((dgt U k:Nat):Int)),true,e0⟩::b1::b2::(Cs++[some ⟨List.replicate n (.i .u32 0),true,e3⟩]))
  (cont:∀fr' e,fr' 12=O→fr' 22=.sl (Cs.length+1+1+1) 0 n n 1→UK E0 F (.exit 6) ks fr' (some ⟨tab N fun k=>(PV.i .u32 ((dgt U k:Nat):Int)),true,e0⟩::b1::b2::(Cs++[some ⟨tab n fun k=>(PV.i .u32 ((dgt (U/2^by_) k:Nat):Int)),true,e⟩]))):WK E0 F (.loop zwF) ks fr M:=by
 refine zan zwF.eq_1 (fun(i:Nat) fr M=>i≤n∧fr 8=.i .i64 (by_:Int)∧fr 9=.sl 0 0 N N 1∧fr 12=O∧fr 22=.sl (Cs.length+1+1+1) 0 n n 1∧fr 201=.i .i64 (n:Int)∧fr 202=.i .i64 (i:Int) ∧
  ∃e,M=some ⟨tab N fun k=>(PV.i .u32 ((dgt U k:Nat):Int)),true,e0⟩::b1::b2::(Cs++[some ⟨tab n fun k=>(PV.i .u32 ((if k<i then dgt (U/2^by_) k else 0:Nat):Int)),true,e⟩])) (fun i=>n-i) ?_ 0 ⟨Nat.zero_le _,h8,h9,h12,h22,h201,h202,e3,?_⟩
 ·rintro i fr M ⟨hi,h8,h9,h12,h22,h201,h202,e,rfl⟩ ih
  by_cases hin:i<n
  ·have hc0:((i:Int)<(n:Int))=True:=by simp;omega
   have i1:((i:Int)+1)=((i+1:Nat):Int):=by omega
   have hl0:i<N:=by omega
   have hl1:i+1<N:=by omega
   have hg0:(tab N fun k=>(PV.i .u32 ((dgt U k:Nat):Int)))[i]?=some (PV.i .u32 ((dgt U i:Nat):Int)):=zaL hl0
   have hg1:(tab N fun k=>(PV.i .u32 ((dgt U k:Nat):Int)))[i+1]?=some (PV.i .u32 ((dgt U (i+1):Nat):Int)):=zaL hl1
   have d0:=zas U i
   have d1:=zas U (i+1)
   have hsh:binP .shr (.i .u64 ((dgt U (i+1)*4294967296+dgt U i:Nat):Int)) (.i .i64 (by_:Int))=some (.i .u64 (((dgt U (i+1)*4294967296+dgt U i)/2^by_:Nat):Int)):=by
    rw[zfv _ _ _ (by omega) (by omega),Int.toNat_natCast]
   have hbw:=zho (U:=U) (i:=i) hb
   simp(disch:=omega)only[go_sem,seval,wqq,h8,h9,h22,h201,h202,hc0,i1,hl0,hl1,hg0,hg1,hin,zdY,hsh,zba,hbw,zaU,zbR,zar]
   refine ih (i+1) _ _ (by omega) ⟨by omega,by simp only[go_sem,seval,h8],by simp only[go_sem,seval,h9],by simp only[go_sem,seval,h12],by simp only[go_sem,seval,h22],by simp only[go_sem,seval,h201],by simp only[go_sem,seval],e+1,?_⟩
   refine congrArg (fun l=>some ⟨tab N fun k=>(PV.i .u32 ((dgt U k:Nat):Int)),true,e0⟩::b1::b2::(Cs++[some ⟨l,true,e+1⟩])) (zae fun k hk=>?_)
   by_cases hki:k=i
   ·subst hki
    rw[if_pos rfl,if_pos (by omega)]
   ·rw[if_neg hki]
    congr 2
    by_cases h:k<i
    ·rw[if_pos h,if_pos (by omega)]
    ·rw[if_neg h,if_neg (by omega)]
  ·have hc0:((i:Int)<(n:Int))=False:=by simp;omega
   obtain rfl:i=n:=by omega
   simp only[go_sem,seval,h201,h202,hc0]
   have ht:(tab i fun k=>(PV.i .u32 ((if k<i then dgt (U/2^by_) k else 0:Nat):Int)))=tab i fun k=>(PV.i .u32 ((dgt (U/2^by_) k:Nat):Int)):=zae fun k hk=>by rw[if_pos hk]
   rw[ht]
   exact cont _ e (by simp only[go_sem,seval,h12]) (by simp only[go_sem,seval,h22])
 ·rw[hM,zb7]
  congr 5
theorem zgz {a b:Nat} (hb:b≠0) (la:wlen a≤4096) (lb:wlen b≤4096):pf E0 35 [D a,D b]=some (.tu [D (a/b),D (a%b)]):=by
 have hbp:=zaT hb
 have hcmp:=zby a b (by omega) (by omega)
 by_cases hab:a<b
 ·refine zaa (xf:=zvj) rfl (by simp[zvj]) ?_
  simp only[zvj]
  have hc:(cmpI (a:Int) (b:Int)<0)=True:=by unfold cmpI;simp;omega
  simp(disch:=omega)only[go_sem,seval,wqq,hcmp,hc]
  rw[Nat.div_eq_of_lt hab,Nat.mod_eq_of_lt hab];rfl
 have hc:(cmpI (a:Int) (b:Int)<0)=False:=by unfold cmpI;simp;omega
 have hwl:wlen b≤wlen a:=by
  rw[zaS];exact Nat.lt_of_le_of_lt (by omega) (zai a)
 by_cases h1:wlen b=1
 ·have hb32:b<4294967296:=by have:=zai b;rw[h1] at this;omega
  have hs:=zmA (zai a) hb32 hb (by omega)
  have hd0:dgt b 0=b:=by rw[zg6,Nat.mod_eq_of_lt hb32]
  have hi:=zaV (n:=wlen b) (v:=b) (j:=0) (by omega)
  rw[hd0] at hi
  have hq:a/b<4294967296^wlen a:=Nat.lt_of_le_of_lt (Nat.div_le_self _ _) (zai a)
  have hn1:=zbA hq (by omega)
  have hm:a%b<4294967296:=Nat.lt_trans (Nat.mod_lt _ (by omega)) hb32
  have hn2:=zbA (n:=1) (v:=a%b) (by simpa using hm) (by omega)
  have hD1:Dw 1 (a%b)=.lst [(PV.i .u32 ((a%b:Nat):Int))]:=by
   have e:tab 1 (fun k=>(PV.i .u32 ((dgt (a%b) k:Nat):Int)))=[(PV.i .u32 ((dgt (a%b) 0:Nat):Int))]:=rfl
   rw[Dw,e,zg6,Nat.mod_eq_of_lt hm]
  rw[hD1] at hn2
  have hl1:((wlen b:Nat):Int)=1:=by omega
  refine zaa (xf:=zvj) rfl (by simp[zvj]) ?_
  simp only[zvj]
  simp(disch:=omega)only[go_sem,seval,wqq,hcmp,hc,hl1,hi,hs,hn1,group,List.headD_cons,hn2]
 ·have htop0:dgt b (wlen b-1)≠0:=by
   have h1:=zfW hb
   have h2:=zai b
   rw[zaf]
   have h3:0<b/4294967296^(wlen b-1):=Nat.div_pos h1 (zbu _)
   have h4:b/4294967296^(wlen b-1)<4294967296:=by rw[Nat.div_lt_iff_lt_mul (zbu _),Nat.mul_comm,zmG (by omega)];exact h2
   rw[Nat.mod_eq_of_lt h4];omega
  have htl:=zas b (wlen b-1)
  obtain⟨l1,l2,l3⟩:=zl1 htl htop0
  have hlead:=zom (dgt b (wlen b-1)) htl
  have hi:=zaV (n:=wlen b) (v:=b) (j:=wlen b-1) (by omega)
  generalize hby:32-bits32 (dgt b (wlen b-1))=by_ at *
  generalize hn:wlen b=n at *
  generalize hm:wlen a=m at *
  have ha:=zai a
  have hbl:=zai b
  rw[hm] at ha
  rw[hn] at hbl
  have hp32:2^by_≤2147483648:=by
   have:=Nat.pow_le_pow_right (show 0<2 by decide) (show by_≤31 by omega)
   exact this
  have hpp:0<2^by_:=Nat.pow_pos (by decide)
  have hbhi:b/4294967296^(n-1)=dgt b (n-1):=by
   have h4:b/4294967296^(n-1)<4294967296:=by rw[Nat.div_lt_iff_lt_mul (zbu _),Nat.mul_comm,zmG (by omega)];exact hbl
   rw[zaf,Nat.mod_eq_of_lt h4]
  have hvB:b*2^by_<4294967296^n:=by
   have h1:=Nat.lt_mul_div_succ b (zbu (n-1))
   rw[hbhi] at h1
   have h2:(dgt b (n-1)+1)*2^by_≤4294967296:=by
    have e:(4294967296:Nat)=2^by_*2^(32-by_):=by rw[←Nat.pow_add,show by_+(32-by_)=32 by omega]
    have h3:dgt b (n-1)<2^(32-by_):=by
     have h4:dgt b (n-1)*2^by_<2^(32-by_)*2^by_:=by rw[Nat.mul_comm (2^(32-by_)),←e];exact l2
     exact Nat.lt_of_mul_lt_mul_right h4
    calc (dgt b (n-1)+1)*2^by_≤2^(32-by_)*2^by_:=Nat.mul_le_mul_right _ h3
     _=4294967296:=by rw[Nat.mul_comm,←e]
   calc b*2^by_<4294967296^(n-1)*(dgt b (n-1)+1)*2^by_:=Nat.mul_lt_mul_of_pos_right h1 hpp
    _=4294967296^(n-1)*((dgt b (n-1)+1)*2^by_):=Nat.mul_assoc ..
    _≤4294967296^(n-1)*4294967296:=Nat.mul_le_mul_left _ h2
    _=4294967296^n:=zmG (by omega)
  have hvlo:2147483648*4294967296^(n-1)≤b*2^by_:=by
   have h1:=Nat.div_mul_le_self b (4294967296^(n-1))
   rw[hbhi] at h1
   calc 2147483648*4294967296^(n-1)≤dgt b (n-1)*2^by_*4294967296^(n-1):=Nat.mul_le_mul_right _ l1
    _=dgt b (n-1)*4294967296^(n-1)*2^by_:=by rw[Nat.mul_assoc,Nat.mul_comm (2^by_),←Nat.mul_assoc]
    _≤b*2^by_:=Nat.mul_le_mul_right _ h1
  have htop:2147483648≤dgt (b*2^by_) (n-1):=by
   have h4:b*2^by_/4294967296^(n-1)<4294967296:=by rw[Nat.div_lt_iff_lt_mul (zbu _),Nat.mul_comm 4294967296,zmG (by omega)];exact hvB
   rw[zaf,Nat.mod_eq_of_lt h4,Nat.le_div_iff_mul_le (zbu _)]
   exact hvlo
  have hA:a*2^by_<b*2^by_*4294967296^(m-n+1):=by
   calc a*2^by_<4294967296^m*2^by_:=Nat.mul_lt_mul_of_pos_right ha hpp
    _≤4294967296^m*2147483648:=Nat.mul_le_mul_left _ hp32
    _=2147483648*4294967296^(n-1)*4294967296^(m-n+1):=by rw[Nat.mul_comm,Nat.mul_assoc,←Nat.pow_add];congr 2;omega
    _≤b*2^by_*4294967296^(m-n+1):=Nat.mul_le_mul_right _ hvlo
  have hAq:a*2^by_/(b*2^by_)=a/b:=Nat.mul_div_mul_right _ _ hpp
  have hAr:a*2^by_%(b*2^by_)=a%b*2^by_:=Nat.mul_mod_mul_right ..
  obtain⟨e1,sh1⟩:=zfj [] (n:=m) (a:=a) (by_:=by_) (by omega) l3 ha
  obtain⟨e2,sh2⟩:=zfj ([]++[some ⟨tab (m+1) (fun k=>(PV.i .u32 ((dgt (a*2^by_) k:Nat):Int))),true,e1⟩]) (n:=n) (a:=b) (by_:=by_) (by omega) l3 hbl
  simp only[List.nil_append,List.length_nil,List.length_cons,Nat.zero_add,List.cons_append] at sh1 sh2
  have hDa:D a=Dw m a:=by rw[D,hm]
  have hDb:D b=Dw n b:=by rw[D,hn]
  rw[hDa,hDb] at hcmp ⊢
  have t1:=zas (b*2^by_) (n-1)
  have t2:=zas (b*2^by_) (n-2)
  have q1:((n:Int)-1)=((n-1:Nat):Int):=by omega
  have q2:((n:Int)-2)=((n-2:Nat):Int):=by omega
  have q3:((m:Int)-(n:Int)+1)=((m-n+1:Nat):Int):=by omega
  have q4:((n:Int)=1)=False:=by simp;omega
  have g1:n-1<n+1:=by omega
  have g2:n-2<n+1:=by omega
  have g1':n-1<n:=by omega
  have g2':n-2<n:=by omega
  have hg1:(tab (n+1) fun k=>(PV.i .u32 ((dgt (b*2^by_) k:Nat):Int)))[n-1]?=some (PV.i .u32 ((dgt (b*2^by_) (n-1):Nat):Int)):=zaL g1
  have hg2:(tab (n+1) fun k=>(PV.i .u32 ((dgt (b*2^by_) k:Nat):Int)))[n-2]?=some (PV.i .u32 ((dgt (b*2^by_) (n-2):Nat):Int)):=zaL g2
  have hsl:slP 1 (.sl 1 0 (n+1) (n+1) 1) none (some (.i .i64 (n:Int))) none=some (.sl 1 0 n (n+1) 1):=by
   simp only[slP,ne_eq,not_true_eq_false,if_false,optP,zaI,Option.isSome_none,Bool.false_eq_true,false_implies,and_true,Nat.le_refl,Nat.mul_one,Nat.zero_le,true_and,Nat.sub_zero,Nat.zero_add,Nat.add_zero,Nat.zero_mul]
   rw[if_pos (by omega),if_neg (by omega)]
  refine zaa (xf:=zvj) rfl (by simp[zvj]) ?_
  simp only[zvj]
  simp(disch:=omega)only[go_sem,seval,wqq,hcmp,hc,q4,q1,hi,hlead,sh1,sh2,hsl,q2,q3,zch,g1,g2,g1',g2',hg1,hg2]
  refine zjF (n:=n) (N:=m+1) (L:=m-n+1) (A:=a*2^by_) (v:=b*2^by_) (S:=.i .i64 (by_:Int)) (b1:=e2) (by omega) (by omega) (by omega) hvB htop hA ⟨by simp only[go_sem,seval],by simp only[go_sem,seval],by simp only[go_sem,seval],by simp only[go_sem,seval],by simp only[go_sem,seval],by simp only[go_sem,seval],by simp only[go_sem,seval]⟩ (by simp only[go_sem,seval]) rfl fun fr' e0 e3 Cs p=>?_
  obtain⟨p8,p9,p10,p11,p12,p13,p14⟩:=p
  rw[hAq,hAr]
  have hq:a/b<4294967296^(m-n+1):=by
   rw[Nat.div_lt_iff_lt_mul (by omega)]
   have h1:=Nat.lt_of_mul_lt_mul_right (a:=2^by_) (show a*2^by_<4294967296^(m-n+1)*b*2^by_ by rw[Nat.mul_assoc,Nat.mul_comm (4294967296^(m-n+1))];exact hA)
   exact h1
  have hr:a%b<4294967296^n:=Nat.lt_trans (Nat.mod_lt _ (by omega)) hbl
  have hn1:=zbA hq (by omega)
  have hn2:=zbA hr (by omega)
  have hback:a%b*2^by_/2^by_=a%b:=Nat.mul_div_cancel _ hpp
  have hn0:n≠0:=by omega
  simp(disch:=omega)only[go_sem,seval,wqq,p11,zch]
  refine zi6 (n:=n) (N:=m+1) (U:=a%b*2^by_) (by_:=by_) (Cs:=Cs) (O:=.sl 2 0 (m-n+1) (m-n+1) 1) (by omega) (by omega) l3 (by simp only[go_sem,seval,p8]) (by simp only[go_sem,seval,p9]) (by simp only[go_sem,seval,p12]) (by simp only[go_sem,seval]) (by simp only[go_sem,seval]) (by simp only[go_sem,seval]) rfl fun fr2 e4 g12 g22=>?_
  have hL0:¬(m-n+1=0):=by omega
  rw[hback]
  simp(disch:=omega)only[go_sem,seval,wqq,g12,g22,hL0,hn0,hn1,hn2,zaU,zbR]
end Go.Eng
namespace Go.Eng
theorem zbD {a b:Nat} (h:a≤b):wlen a≤wlen b:=by
 rw[zaS];exact Nat.lt_of_le_of_lt h (zai b)
theorem zg0 {x:WI} {z:Int} (h:z.natAbs≤x.v.natAbs):wlen z.natAbs≤512:=Nat.le_trans (zbD h) x.lim
theorem zca (a b:Int):(a/b).natAbs≤a.natAbs:=Int.natAbs_ediv_le_natAbs a b
theorem zjI (a b:Int) (hb:b≠0):(a%b).natAbs≤b.natAbs:=by
 have:=Int.emod_nonneg a hb
 have h2:=Int.emod_lt a hb
 omega
def WI.div (x y:WI) (h:y.v≠0):WI:=⟨x.v/y.v,zg0 (zca _ _)⟩
def WI.mod (x y:WI) (h:y.v≠0):WI:=⟨x.v%y.v,zg0 (zjI _ _ h)⟩
@[go_sem] theorem zpP (a o b o':Nat):apart (.p a o) (.p b o')=(a≠b):=_root_.id rfl
theorem zkM:wlen 1=1:=Nat.le_antisymm (zcX (by decide)) (zaT (by decide))
theorem zqA {w:Nat} (h:w<4294967296):PV.lst (group 1 1 [(PV.i .u32 ((w:Nat):Int))])=Dw 1 w:=by
 rw[zcx _ _ (by rfl),Dw]
 have:tab 1 (fun k=>(PV.i .u32 ((dgt w k:Nat):Int)))=[(PV.i .u32 ((dgt w 0:Nat):Int))]:=rfl
 rw[this,zg6,Nat.mod_eq_of_lt h]
theorem zqz:PV.lst (group 1 1 [.i .u32 1])=Dw 1 1:=zqA (w:=1) (by decide)
theorem zlH {a b q r:Int} (hb:b≠0) (h1:r+b*q=a) (h2:0≤r) (h3:r<b.natAbs):a/b=q∧a%b=r:=by
 by_cases h:0<b
 ·exact(Int.ediv_emod_unique h).2 ⟨h1,h2,by omega⟩
 ·obtain⟨c,rfl⟩:∃c,b = -c:=⟨-b,by omega⟩
  have hc:0<c:=by omega
  have:=(Int.ediv_emod_unique (a:=a) (b:=c) (q := -q) (r:=r) hc).2 ⟨by rw[Int.mul_neg];rw[Int.neg_mul] at h1;omega,h2,by omega⟩
  rw[Int.ediv_neg,Int.emod_neg,this.1,this.2]
  exact⟨by omega,rfl⟩
theorem zb9 {x y:Int} {q r:Nat} (hy:y≠0) (h1:(y.natAbs*q:Nat)+(if x<0 then-(r:Int) else r)=x.natAbs) (h2:r<y.natAbs) :
  (if (decide (x<0) != decide (y<0))=true then-(q:Int) else (q:Int))=x/y∧(r:Int)=x%y:=by
 have key:∀z:Int,z=(if (decide (x<0) != decide (y<0))=true then-(q:Int) else (q:Int))→z=x/y∧(r:Int)=x%y:=by
  intro z hz
  have:=zlH (a:=x) (b:=y) (q:=z) (r:=r) hy ?_ (by omega) (by omega)
  ·exact⟨this.1.symm,this.2.symm⟩
  ·subst hz
   rw[Int.natCast_mul] at h1
   by_cases h:x<0
   ·by_cases h':y<0
    ·have e:(y.natAbs:Int) = -y:=by omega
     rw[e,Int.neg_mul] at h1
     simp[h,h',Int.mul_neg] at h1 ⊢;omega
    ·have e:(y.natAbs:Int)=y:=by omega
     rw[e] at h1
     simp[h,h',Int.mul_neg] at h1 ⊢;omega
   ·by_cases h':y<0
    ·have e:(y.natAbs:Int) = -y:=by omega
     rw[e,Int.neg_mul] at h1
     simp[h,h',Int.mul_neg] at h1 ⊢;omega
    ·have e:(y.natAbs:Int)=y:=by omega
     rw[e] at h1
     simp[h,h',Int.mul_neg] at h1 ⊢;omega
 exact key _ rfl
theorem ziA (x y:WI) (h:y.v≠0):pf E0 29 [wiP x,wiP y]=some (.tu [wiP (x.div y h),wiP (x.mod y h),.i .i64 0]):=by
 refine zaa (xf:=zwT) rfl (by simp[zwT]) ?_
 simp only[zwT]
 have lx:=x.lim
 have ly:=y.lim
 have hy:y.v.natAbs≠0:=by omega
 have hyp:=zaT hy
 have hd:=zgz hy (a:=x.v.natAbs) (by omega) (by omega)
 have hl:((wlen y.v.natAbs:Int)=0)=False:=by simp;omega
 have dm:=Nat.div_add_mod x.v.natAbs y.v.natAbs
 have ml:=Nat.mod_lt x.v.natAbs (Nat.pos_of_ne_zero hy)
 have dl:=Nat.div_le_self x.v.natAbs y.v.natAbs
 have ld:=zbD dl
 have lm:=zbD (Nat.le_of_lt ml)
 have cd:clip (x.v/y.v)=x.div y h:=zbI _
 have cm:clip (x.v%y.v)=x.mod y h:=zbI _
 generalize x.v.natAbs/y.v.natAbs=q at *
 generalize x.v.natAbs%y.v.natAbs=r at *
 by_cases hx:x.v<0
 ·by_cases hr:r=0
  ·have hf:=zb9 (q:=q) (r:=0) h (by rw[if_pos hx];omega) (by omega)
   have s1:pf E0 36 [.b (!(decide (x.v<0)==decide (y.v<0))),Dw (wlen q) q]=_:=zaA (decide (x.v<0) != decide (y.v<0)) (wlen q) q (zai _) (by omega)
   have s2:=zaA false (wlen 0) 0 (zai _) (by decide)
   rw[if_neg (by simp),hf.2,cm] at s2
   rw[hf.1,cd] at s1
   simp only[hx,decide_true] at s1
   subst hr
   simp(disch:=omega)only[go_sem,seval,wqq,hl,hd,hx,show wlen 0=0 from rfl,Int.natCast_zero,s1]
   rw[show wlen 0=0 from rfl] at s2
   simp(disch:=omega)only[go_sem,seval,wqq,s2]
   refine zbS ⟨.inr ⟨11,4,rfl,by simp only[go_sem,seval]⟩,trivial⟩ ?_
   simp(disch:=omega)only[go_sem,seval,wqq]
  ·have hf:=zb9 (q:=q+1) (r:=y.v.natAbs-r) h (by rw[if_pos hx,Nat.mul_add];omega) (by omega)
   have hs:=zmB (n:=wlen q) (m:=1) (b:=1) (zai q) (by decide) (by omega) (by omega)
   have s1:pf E0 36 [.b (!(decide (x.v<0)==decide (y.v<0))),Dw (max (wlen q) 1+1) (q+1)]=_:=zaA (decide (x.v<0) != decide (y.v<0)) _ _ (by simpa [zkM] using zih (a:=q) (b:=1)) (by omega)
   have hdf:=za6 (a:=y.v.natAbs) (b:=r) (s:=y.v.natAbs-r) (by omega) (zai _) (by omega) (by omega) (zai y.v.natAbs)
   have s2:=zaA false (wlen y.v.natAbs) (y.v.natAbs-r) (Nat.lt_of_le_of_lt (Nat.sub_le _ _) (zai _)) (by omega)
   rw[if_neg (by simp),hf.2,cm] at s2
   rw[hf.1,cd] at s1
   simp only[hx,decide_true] at s1
   have hl2:((wlen r:Int)>0)=True:=by have:=zaT hr;simp;omega
   simp(disch:=omega)only[go_sem,seval,wqq,hl,hd,hx,hl2,hs,zqz]
   simp(disch:=omega)only[go_sem,seval,wqq,s1,hdf,s2]
   refine zbS ⟨.inr ⟨11,4,rfl,by simp only[go_sem,seval]⟩,trivial⟩ ?_
   simp(disch:=omega)only[go_sem,seval,wqq]
 ·have hf:=zb9 (q:=q) (r:=r) h (by rw[if_neg hx];omega) (by omega)
  have s1:pf E0 36 [.b (!(decide (x.v<0)==decide (y.v<0))),Dw (wlen q) q]=_:=zaA (decide (x.v<0) != decide (y.v<0)) (wlen q) q (zai _) (by omega)
  have s2:=zaA false (wlen r) r (zai _) (by omega)
  rw[if_neg (by simp),hf.2,cm] at s2
  rw[hf.1,cd] at s1
  simp only[hx,decide_false] at s1
  simp(disch:=omega)only[go_sem,seval,wqq,hl,hd,hx,s1]
  simp(disch:=omega)only[go_sem,seval,wqq,s2]
  refine zbS ⟨.inr ⟨11,4,rfl,by simp only[go_sem,seval]⟩,trivial⟩ ?_
  simp(disch:=omega)only[go_sem,seval,wqq]
theorem zlR (x y:WI):wlen (Nat.gcd x.v.natAbs y.v.natAbs)≤512:=by
 by_cases h:x.v.natAbs=0
 ·rw[h,Nat.gcd_zero_left];exact y.lim
 ·exact Nat.le_trans (zbD (Nat.gcd_le_left _ (Nat.pos_of_ne_zero h))) x.lim
def WI.gcd (x y:WI):WI:=⟨(Nat.gcd x.v.natAbs y.v.natAbs:Nat),by rw[Int.natAbs_natCast];exact zlR x y⟩
theorem zmq (x y:WI):pf E0 18 [wiP x,wiP y]=some (wiP (x.gcd y)):=by
 refine zaa (xf:=zwV) rfl (by simp[zwV]) ?_
 simp only[zwV]
 have lx:=x.lim
 have ly:=y.lim
 have cg:clip ((Nat.gcd x.v.natAbs y.v.natAbs:Nat):Int)=x.gcd y:=zbI _
 simp(disch:=omega)only[go_sem,seval,wqq]
 refine zan zxu.eq_1 (fun(p:Nat×Nat) fr M=>Nat.gcd p.1 p.2=Nat.gcd x.v.natAbs y.v.natAbs∧wlen p.1≤512∧wlen p.2≤512∧fr 4=.p 2 0∧fr 5=D p.1∧fr 6=D p.2 ∧
  M=[some ⟨[.b (decide (x.v<0)),D x.v.natAbs],true,0⟩,some ⟨[.b (decide (y.v<0)),D y.v.natAbs],true,0⟩,some ⟨[.b false,.nl],true,0⟩]) (fun p=>p.2) ?_ (x.v.natAbs,y.v.natAbs) ⟨rfl,lx,ly,by simp only[go_sem,seval],by simp only[go_sem,seval],by simp only[go_sem,seval],rfl⟩
 rintro⟨a,b⟩ fr M ⟨hg,la,lb,h4,h5,h6,rfl⟩ ih
 simp only at hg la lb h5 h6
 by_cases hb:b=0
 ·subst hb
  rw[Nat.gcd_zero_right] at hg
  subst hg
  have s1:=zaA false (wlen (Nat.gcd x.v.natAbs y.v.natAbs)) _ (zai _) (by omega)
  rw[if_neg (by simp),cg] at s1
  simp(disch:=omega)only[go_sem,seval,wqq,h4,h5,h6,show wlen 0=0 from rfl,Int.natCast_zero,Int.lt_irrefl,s1]
 ·have hbp:=zaT hb
  have hd:=zgz hb (a:=a) (by omega) (by omega)
  have hl:((wlen b:Int)>0)=True:=by simp;omega
  have ml:=Nat.mod_lt a (Nat.pos_of_ne_zero hb)
  have lm:=zbD (Nat.le_of_lt ml)
  simp(disch:=omega)only[go_sem,seval,wqq,h4,h5,h6,hl,hd]
  refine ih (b,a%b) _ _ ml ⟨by rw[←hg,Nat.gcd_comm b,←Nat.gcd_rec,Nat.gcd_comm],lb,by show wlen (a%b)≤512;omega,by simp only[go_sem,seval,h4],by simp only[go_sem,seval],by simp only[go_sem,seval],rfl⟩
attribute [go_sem] zmq
end Go.Eng
namespace Go.Eng
theorem zlr:∃f:Nat→Nat→Nat,∀v i,f v i=v/10000^i%10000:=⟨fun v i=>v/10000^i%10000,fun _ _=>rfl⟩
noncomputable def tdg:Nat→Nat→Nat:=Classical.choose zlr
theorem zak (v i:Nat):tdg v i=v/10000^i%10000:=Classical.choose_spec zlr v i
theorem zdj (i:Nat):0<10000^i:=Nat.pow_pos (by decide)
theorem zc4 (v i:Nat):tdg v i<10000:=by rw[zak];exact Nat.mod_lt _ (by decide)
theorem zkF (i:Nat):tdg 0 i=0:=by simp[zak]
theorem zkE (v i:Nat):tdg v (i+1)=tdg (v/10000) i:=by
 rw[zak,zak,Nat.pow_succ,Nat.mul_comm,Nat.div_div_eq_div_mul]
theorem zbm (v i:Nat):v%10000^(i+1)=v%10000^i+10000^i*tdg v i:=by
 rw[zak,Nat.pow_succ,Nat.mod_mul]
theorem zjg:∃f:Nat→Nat,∀v n,f v≤n↔v<10000^n:=by
 have key:∀v:Nat,∃m,∀n,m≤n↔v<10000^n:=by
  intro v
  induction v using Nat.strongRecOn with
  | _ v ih =>
   by_cases h:v=0
   ·subst h;exact⟨0,fun n=>⟨fun _=>zdj n,fun _=>Nat.zero_le _⟩⟩
   ·obtain⟨m,hm⟩:=ih (v/10000) (Nat.div_lt_self (by omega) (by decide))
    refine⟨m+1,fun n=>?_⟩
    cases n with
    | zero=>simp;omega
    | succ n =>
     rw[Nat.pow_succ,←Nat.div_lt_iff_lt_mul (by decide),←hm n];omega
 exact⟨fun v=>Classical.choose (key v),fun v=>Classical.choose_spec (key v)⟩
noncomputable def tlen:Nat→Nat:=Classical.choose zjg
theorem zaQ {v n:Nat}:tlen v≤n↔v<10000^n:=Classical.choose_spec zjg v n
theorem zaj (v:Nat):v<10000^tlen v:=zaQ.1 (Nat.le_refl _)
theorem zaM:tlen 0=0:=by have:tlen 0≤0:=zaQ.2 (by decide);omega
theorem zaR {v:Nat} (h:v≠0):0<tlen v:=by
 rcases Nat.eq_zero_or_pos (tlen v) with h0|h0
 ·have:=zaj v;rw[h0] at this;simp at this;omega
 ·exact h0
theorem zat {a b:Nat} (h:a≤b):tlen a≤tlen b:=by
 rw[zaQ];exact Nat.lt_of_le_of_lt h (zaj b)
noncomputable def Tw (n v:Nat):PV:=.lst (tab n fun k=>(PV.i .i64 ((tdg v k:Nat):Int)))
noncomputable abbrev T (v:Nat):PV:=Tw (tlen v) v
noncomputable def nP (z:Int):PV:=.ag [.b (decide (z<0)),T z.natAbs]
@[go_sem] theorem zus (M:PM) (d n v:Nat):fz M (d+1) (Tw n v)=some (Tw n v,[]):=_root_.id rfl
@[go_sem] theorem zuw (M:PM) (d:Nat) (z:Int):fz M (d+1+1) (nP z)=some (nP z,[]):=_root_.id rfl
@[go_sem] theorem zpb (n v:Nat):(Tw n v).cells=[Tw n v]:=_root_.id rfl
@[go_sem] theorem zpd (z:Int):(nP z).cells=[.b (decide (z<0)),T z.natAbs]:=_root_.id rfl
@[go_sem] theorem zss (n v:Nat):(Tw n v).scal=true:=_root_.id rfl
@[go_sem] theorem zqu (n v:Nat):lenP (Tw n v)=some (.i .i64 (n:Int)):=by simp[Tw,lenP]
theorem zbK {n v j:Nat} (h:j<n):idxP 1 (Tw n v) (some j)=some (.fp [(PV.i .i64 ((tdg v j:Nat):Int))]):=by
 rw[Tw,zer,zaL h];rfl
@[go_sem] theorem zqe (n v:Nat):PV.lst (tab n fun k=>(PV.i .i64 ((tdg v k:Nat):Int)))=Tw n v:=_root_.id rfl
theorem zcT {a n i:Nat} (h:a<10000^n) (hi:n≤i):tdg a i=0:=by
 rw[zak,Nat.div_eq_of_lt (Nat.lt_of_lt_of_le h (Nat.pow_le_pow_right (by decide) hi)),Nat.zero_mod]
theorem zps {n v i:Nat} (hv:v<10000^n) (hi:i<1099511627776) (hn:n<1099511627776):pf E0 147 [Tw n v,(PV.i .i64 ((i:Nat):Int))]=some (PV.i .i64 ((tdg v i:Nat):Int)):=by
 refine zaa (xf:=zxf) rfl (by simp[zxf]) ?_
 simp only[zxf]
 by_cases h:i<n
 ·have hc:((i:Int)<(n:Int))=True:=by simp;omega
  simp(disch:=omega)only[go_sem,seval,wqq,hc,zbK]
 ·have hc:((i:Int)<(n:Int))=False:=by simp;omega
  rw[zcT hv (by omega)]
  simp(disch:=omega)only[go_sem,seval,wqq,hc,Int.natCast_zero]
end Go.Eng
namespace Go.Eng
theorem zoP (n v k:Nat) (h:k≤n):slP 1 (Tw n v) none (some (.i .i64 (k:Int))) none=some (Tw k v):=by
 have hz:ez 1 (tab n fun k=>(PV.i .i64 ((tdg v k:Nat):Int)))=true:=by
  unfold ez tab
  simp[PV.cells]
 simp only[slP,Tw,Option.isSome_none,Bool.false_eq_true,if_false,optP,zaI,hz,zaX]
 rw[if_pos ⟨by omega,h,trivial⟩,List.drop_zero,zeO _ _ _ h]
@[go_sem] theorem zqh (z:Int):PV.ag [.b (decide (z<0)),T z.natAbs]=nP z:=_root_.id rfl
def sgn (neg:Bool) (v:Nat):Int:=if neg then-(v:Int) else v
theorem zln (neg:Bool) (v:Nat):PV.ag [.b (neg&&decide (0<v)),T v]=nP (sgn neg v):=by
 unfold nP sgn
 cases neg
 ·simp
 ·by_cases h:v=0
  ·subst h;simp
  ·simp[show 0<v by omega]
theorem zaq (neg:Bool) (n v:Nat) (hv:v<10000^n) (hn:n<1099511627776):pf E0 132 [.b neg,Tw n v]=some (nP (sgn neg v)):=by
 refine zaa (xf:=zwk) rfl (by simp[zwk]) ?_
 simp only[zwk]
 simp only[go_sem,seval]
 refine zan zxo.eq_1 (fun(m:Nat) fr M=>fr 0=.b neg∧fr 1=Tw m v∧fr 4=.p 0 0∧v<10000^m∧m≤n∧M=[some ⟨[.b false,.nl],true,0⟩]) id ?_ n ⟨by simp only[go_sem,seval],by simp only[go_sem,seval],by simp only[go_sem,seval],hv,Nat.le_refl _,rfl⟩
 rintro m fr M ⟨hh,h0,h4,h1,h2,rfl⟩ ih
 by_cases hm:m=0
 ·subst hm
  have hv0:v=0:=by simpa using h1
  subst hv0
  have e0:Tw 0 0=T 0:=by unfold T;rw[zaM]
  cases neg
  ·simp(disch:=omega)only[go_sem,seval,wqq,hh,h0,h4,Int.natCast_zero,Int.lt_irrefl]
   rw[e0];rfl
  ·simp(disch:=omega)only[go_sem,seval,wqq,hh,h0,h4,Int.natCast_zero,Int.lt_irrefl]
   rw[e0];rfl
 ·have hm':(0:Int)<(m:Int):=by omega
  have hm2:((m:Int)>0)=True:=by simp;omega
  simp(disch:=omega)only[go_sem,seval,wqq,h0,hm2,zax,zbK]
  have e:v=v%10000^(m-1)+10000^(m-1)*tdg v (m-1):=by
   rw[←zbm,show m-1+1=m by omega,Nat.mod_eq_of_lt h1]
  refine zcV (fun h=>?_) (fun h=>?_)
  ·have hd:tdg v (m-1)=0:=by omega
   rw[hd,Nat.mul_zero,Nat.add_zero] at e
   simp(disch:=omega)only[go_sem,seval,wqq,h0,zax,zoP]
   exact ih (m-1) _ _ (by simp only[id];omega) ⟨by simp only[go_sem,seval,hh],by simp only[go_sem,seval],by simp only[go_sem,seval,h4],by rw[e];exact Nat.mod_lt _ (zdj _),by omega,rfl⟩
  ·have hd:tdg v (m-1)≠0:=by omega
   have hw:tlen v=m:=by
    have h3:tlen v≤m:=zaQ.2 h1
    have h4:¬tlen v≤m-1:=fun q=>by
     have:=zaQ.1 q
     apply hd
     rw[zak,Nat.div_eq_of_lt this]
    omega
   have hv0:decide (0<v)=true:=by
    refine decide_eq_true ?_
    rcases Nat.eq_zero_or_pos v with h|h
    ·subst h;rw[zaM] at hw;omega
    ·exact h
   cases neg
   ·simp(disch:=omega)only[go_sem,seval,wqq,hh,h0,h4,hm2]
    rw[←zln,T,hw];rfl
   ·simp(disch:=omega)only[go_sem,seval,wqq,hh,h0,h4,hm2]
    rw[←zln,T,hw,hv0];rfl
theorem zce (a b:Nat) (ha:tlen a<1099511627776) (hb:tlen b<1099511627776):pf E0 134 [T a,T b]=some (.i .i64 (cmpI a b)):=by
 refine zaa (xf:=zvZ) rfl (by simp[zvZ]) ?_
 simp only[zvZ]
 simp only[go_sem,seval]
 refine zcV (fun h=>?_) (fun h=>?_)
 ·simp only[go_sem,seval]
  have:a<b:=by
   rcases Nat.lt_or_ge a b with q|q
   ·exact q
   ·have:=zat q;omega
  simp[cmpI];omega
 ·simp only[go_sem,seval]
  refine zcV (fun h'=>?_) (fun h'=>?_)
  ·simp only[go_sem,seval]
   have:b<a:=by
    rcases Nat.lt_or_ge b a with q|q
    ·exact q
    ·have:=zat q;omega
   simp[cmpI];omega
  ·have hl:tlen a=tlen b:=by omega
   simp(disch:=omega)only[go_sem,seval,wqq]
   refine zan zxb.eq_1 (fun(m:Nat) fr M=>fr 0=T a∧fr 1=T b∧fr 5=.i .i64 ((m:Int)-1)∧a/10000^m=b/10000^m∧m≤tlen a∧M=[]) id ?_ (tlen a) ⟨by simp only[go_sem,seval],by simp only[go_sem,seval],by simp only[go_sem,seval],?_,Nat.le_refl _,rfl⟩
   ·rintro m fr M ⟨h0,h1,h6,hq,hm,rfl⟩ ih
    by_cases hm0:m=0
    ·subst hm0
     have hab:a=b:=by simpa using hq
     simp(disch:=omega)only[go_sem,seval,wqq,h6,Int.natCast_zero,Int.zero_sub,Int.reduceNeg,Int.reduceLE,ge_iff_le]
     subst hab
     simp[cmpI]
    ·have hm':((m:Int)-1≥0)=True:=by simp;omega
     have ia:(T a)=Tw (tlen a) a:=rfl
     have ib:(T b)=Tw (tlen b) b:=rfl
     have ea:a/10000^(m-1)=10000*(a/10000^m)+tdg a (m-1):=by
      rw[zak,show (10000:Nat)^m=10000^(m-1)*10000 by rw[←Nat.pow_succ];congr 1;omega,←Nat.div_div_eq_div_mul]
      exact(Nat.div_add_mod _ _).symm
     have eb:b/10000^(m-1)=10000*(b/10000^m)+tdg b (m-1):=by
      rw[zak,show (10000:Nat)^m=10000^(m-1)*10000 by rw[←Nat.pow_succ];congr 1;omega,←Nat.div_div_eq_div_mul]
      exact(Nat.div_add_mod _ _).symm
     have lt:∀x y:Nat,x/10000^(m-1)<y/10000^(m-1)→x<y:=fun x y h=>by
      by_cases q:x<y
      ·exact q
      ·have:=Nat.div_le_div_right (c:=10000^(m-1)) (show y≤x by omega)
       omega
     simp(disch:=omega)only[go_sem,seval,wqq,h0,h1,h6,hm',zax,ia,ib,zbK]
     refine zcV (fun h=>?_) (fun h=>?_)
     ·simp only[go_sem,seval]
      have:=lt a b (by omega)
      simp[cmpI];omega
     ·simp(disch:=omega)only[go_sem,seval,wqq,h0,h1,h6,hm',zax,ia,ib,zbK]
      refine zcV (fun h'=>?_) (fun h'=>?_)
      ·simp only[go_sem,seval]
       have:=lt b a (by omega)
       simp[cmpI];omega
      ·simp(disch:=omega)only[go_sem,seval,wqq,h6,zax]
       exact ih (m-1) _ _ (by simp only[id];omega) ⟨by simp only[go_sem,seval,h0],by simp only[go_sem,seval,h1],by simp only[go_sem,seval],by omega,by omega,rfl⟩
   ·rw[Nat.div_eq_of_lt (zaj a),hl,Nat.div_eq_of_lt (zaj b)]
end Go.Eng
namespace Go.Eng
theorem za4 (x y:Int) (hx:tlen x.natAbs<1099511627776) (hy:tlen y.natAbs<1099511627776):pf E0 124 [nP x,nP y]=some (.i .i64 (cmpI x y)):=by
 refine zaa (xf:=zwb) rfl (by simp[zwb]) ?_
 simp only[zwb]
 have c1:=zce x.natAbs y.natAbs hx hy
 have c2:=zce y.natAbs x.natAbs hy hx
 by_cases h:x<0
 ·by_cases h':y<0
  ·simp only[go_sem,seval,h,h',c2]
   unfold cmpI
   congr 2
   (repeat split)<;>omega
  ·simp only[go_sem,seval,h,h']
   unfold cmpI
   rw[if_pos (by omega)]
 ·by_cases h':y<0
  ·simp only[go_sem,seval,h,h']
   unfold cmpI
   rw[if_neg (by omega),if_pos (by omega)]
  ·simp only[go_sem,seval,h,h',c1]
   unfold cmpI
   congr 2
   (repeat split)<;>omega
theorem zc1 (x:Int) (hx:tlen x.natAbs<1099511627776):pf E0 123 [nP x]=some (nP (-x)):=by
 refine zaa (xf:=zw5) rfl (by simp[zw5]) ?_
 simp only[zw5]
 have c1:=zaq (!decide (x<0)) (tlen x.natAbs) x.natAbs (zaj _) hx
 have e:sgn (!decide (x<0)) x.natAbs = -x:=by
  unfold sgn
  by_cases h:x<0
  ·simp[h];omega
  ·simp[h];omega
 rw[e] at c1
 simp only[go_sem,seval,c1]
def Grows (M:PM) (v:PV) (xs:List PV):Prop :=
 (xs=[]∧v=.nl)∨∃k e,v=.sl k 0 xs.length xs.length 1∧PM.blk M k=some ⟨xs,true,e⟩
def NotIn (v:PV) (j:Nat):Prop:=match v with | .sl k _ _ _ _=>k≠j|_=>True
theorem zee {by_:Nat} (hby:by_≤64) {M:PM} {v:PV} {xs:List PV} (h:Grows M v xs) (x:PV) (hl:xs.length<1000000000000) :
  ∃v' M',appP (M++[some (⟨[x],true,0⟩:PB)]) 1 by_ v (.sl M.length 0 1 1 1)=some (v',M')∧Grows M' v' (xs++[x])∧(∀j b,PM.blk M j=some b→NotIn v j→PM.blk M' j=some b∧NotIn v' j):=by
 have hs:srcP (M++[some (⟨[x],true,0⟩:PB)]) 1 (.sl M.length 0 1 1 1)=some (1,[x]):=by
  simp only[srcP,PM.rd,zaU];rfl
 rcases h with⟨rfl,rfl⟩|⟨k,e,rfl,hb⟩
 ·refine⟨.sl (M.length+1) 0 1 1 1,M++[some (⟨[x],true,0⟩:PB)]++[some (⟨[x],true,0⟩:PB)],?_,.inr ⟨M.length+1,0,rfl,?_⟩,?_⟩
  ·simp only[appP,hs];simp;omega
  ·have:=zaU (M++[some (⟨[x],true,0⟩:PB)]) (some (⟨[x],true,0⟩:PB))
   simpa using this
  ·intro j b hj _
   have hlt:=zbZ hj
   refine⟨?_,?_⟩
   ·rw[zaz] at hj ⊢
    rw[List.getElem?_append_left (by simp;omega),List.getElem?_append_left hlt];exact hj
   ·simp[NotIn];omega
 ·have hlt:=zbZ hb
  refine⟨.sl (M.length+1) 0 (xs.length+1) (xs.length+1) 1,(M++[some (⟨[x],true,0⟩:PB)]).set k none++[some (⟨xs++[x],true,0⟩:PB)],?_,.inr ⟨M.length+1,0,by simp,?_⟩,?_⟩
  ·have hb':PM.blk (M++[some (⟨[x],true,0⟩:PB)]) k=some ⟨xs,true,e⟩:=by
    rw[zaz] at hb ⊢
    rw[List.getElem?_append_left hlt];exact hb
   simp only[appP,hs,hb']
   have:(xs.length+1)*by_≤(xs.length+1)*64:=Nat.mul_le_mul_left _ hby
   simp
   omega
  ·have:=zaU ((M++[some (⟨[x],true,0⟩:PB)]).set k none) (some (⟨xs++[x],true,0⟩:PB))
   simpa using this
  ·intro j b hj hne
   have hltj:=zbZ hj
   refine⟨?_,?_⟩
   ·rw[zaz] at hj ⊢
    rw[List.getElem?_append_left (by simp;omega),List.getElem?_set_ne hne,List.getElem?_append_left hltj];exact hj
   ·simp[NotIn];omega
theorem zfs {M:PM} {v:PV} {xs:List PV} (h:Grows M v xs) (x:PV) (hl:xs.length<1000000000000) :
  ∃v' M',appP (M++[some (⟨[x],true,0⟩:PB)]) 1 8 v (.sl M.length 0 1 1 1)=some (v',M')∧Grows M' v' (xs++[x])∧(∀j b,PM.blk M j=some b→NotIn v j→PM.blk M' j=some b∧NotIn v' j):=zee (by decide) h x hl
theorem zeN {α:Type} (n:Nat) (f:Nat→α):tab n f++[f n]=tab (n+1) f:=by
 simp[tab,List.range_succ]
theorem zkX {M:PM} {v:PV} {n:Nat} {g:Nat→Int} (d:Nat) (h:Grows M v (tab n fun k=>PV.i .i64 (g k))):(fz M (d+1+1) v).map Prod.fst=some (.lst (tab n fun k=>PV.i .i64 (g k))):=by
 rcases h with⟨h,rfl⟩|⟨k,e,rfl,hb⟩
 ·rw[h];rfl
 ·simp(disch:=omega)only[go_sem,seval,wqq,hb]
  by_cases hn:n=0
  ·rw[if_pos hn,hn];rfl
  ·rw[if_neg hn];rfl
theorem zje (a b i:Nat):tdg (a+b) i=(tdg a i+tdg b i+(a%10000^i+b%10000^i)/10000^i)%10000 ∧
  (a%10000^(i+1)+b%10000^(i+1))/10000^(i+1)=(tdg a i+tdg b i+(a%10000^i+b%10000^i)/10000^i)/10000:=by
 have hp:=zdj i
 rw[zbm,zbm,zak,zak,zak,Nat.pow_succ]
 have ea:=Nat.mod_add_div a (10000^i)
 have eb:=Nat.mod_add_div b (10000^i)
 generalize 10000^i=P at *
 generalize hx:a%P=x at *
 generalize hy:b%P=y at *
 generalize a/P=u at *
 generalize b/P=w at *
 subst ea eb
 have e1:(x+P*u+(y+P*w))/P=(x+y)/P+(u+w):=by
  rw[show x+P*u+(y+P*w)=x+y+P*(u+w) by rw[Nat.mul_add];omega,Nat.add_mul_div_left _ _ hp]
 have e2:(x+P*(u%10000)+(y+P*(w%10000)))/P=(x+y)/P+(u%10000+w%10000):=by
  rw[show x+P*(u%10000)+(y+P*(w%10000))=x+y+P*(u%10000+w%10000) by rw[Nat.mul_add];omega,Nat.add_mul_div_left _ _ hp]
 rw[e1,←Nat.div_div_eq_div_mul,e2]
 generalize (x+y)/P=c
 omega
end Go.Eng
namespace Go.Eng
theorem zmE {E:PEnv} {f:Nat} {xf:XF} {args:List PV} {R:PV→Prop} (hp:E.prog f=some (.fn xf)) (hl:args.length≤xf.n) (w:WK E ⟨xf.res,fun w M2=>∃v,(fz M2 fzD w).map Prod.fst=some v∧R v⟩ xf.body [] (frOf args) []) (ho:E.ovr f args=none:=by rfl):∃v,pf E f args=some v∧R v:=by
 obtain⟨lf,q,fr',M',vs,e,h1,h2,v,h3,h4⟩:=w
 exact⟨v,zaa hp hl ⟨lf,q,fr',M',vs,e,h1,h2,h3⟩ ho,h4⟩
theorem zow {n m a b:Nat} (ha:a<10000^n) (hb:b<10000^m) (hn:n<1000000000) (hm:m<1000000000) :
  ∃k,pf E0 133 [Tw n a,Tw m b]=some (Tw k (a+b))∧a+b<10000^k∧k≤max n m+1:=by
 suffices h:∃v,pf E0 133 [Tw n a,Tw m b]=some v∧∃k,v=Tw k (a+b)∧a+b<10000^k∧k≤max n m+1 by
  obtain⟨v,h1,k,rfl,h2⟩:=h
  exact⟨k,h1,h2⟩
 refine zmE (xf:=zwL) rfl (by simp[zwL]) ?_
 simp only[zwL]
 simp(disch:=omega)only[go_sem,seval,wqq,Int.natCast_zero]
 refine zan zxx.eq_1 (fun(i:Nat) fr M=>i≤max n m+1∧fr 0=Tw n a∧fr 1=Tw m b∧fr 6=(PV.i .i64 (((a%10000^i+b%10000^i)/10000^i:Nat):Int))∧fr 7=(PV.i .i64 ((i:Nat):Int))∧Grows M (fr 5) (tab i fun k=>(PV.i .i64 ((tdg (a+b) k:Nat):Int)))) (fun i=>max n m+1-i) ?_ 0 ⟨by omega,by simp only[go_sem,seval],by simp only[go_sem,seval],by simp only[go_sem,seval];try simp[Nat.mod_one],by simp only[go_sem,seval];try simp,.inl ⟨rfl,by simp only[go_sem,seval]⟩⟩
 rintro i fr M ⟨hi,h0,h1,h6,h7,hg⟩ ih
 obtain⟨t1,t2⟩:=zje a b i
 have d1:tdg a i<10000:=by rw[zak];exact Nat.mod_lt _ (by decide)
 have d2:tdg b i<10000:=by rw[zak];exact Nat.mod_lt _ (by decide)
 have k1:=Nat.mod_lt a (zdj i)
 have k2:=Nat.mod_lt b (zdj i)
 have hc:(a%10000^i+b%10000^i)/10000^i≤1:=by
  have:(a%10000^i+b%10000^i)/10000^i<2:=by rw[Nat.div_lt_iff_lt_mul (zdj i)];omega
  omega
 have hz:max n m≤i→(a%10000^i+b%10000^i)/10000^i=0→a+b<10000^i:=fun q z=>by
  have e1:a%10000^i=a:=Nat.mod_eq_of_lt (Nat.lt_of_lt_of_le ha (Nat.pow_le_pow_right (by decide) (by omega)))
  have e2:b%10000^i=b:=Nat.mod_eq_of_lt (Nat.lt_of_lt_of_le hb (Nat.pow_le_pow_right (by decide) (by omega)))
  rw[e1,e2] at z
  rcases Nat.div_eq_zero_iff.1 z with z|z
  ·have:=zdj i;omega
  ·exact z
 have hz1:max n m+1≤i→(a%10000^i+b%10000^i)/10000^i=0:=fun q=>by
  obtain⟨j,rfl⟩:∃j,i=j+1:=⟨i-1,by omega⟩
  rw[(zje a b j).2]
  have q1:tdg a j=0:=zcT ha (by omega)
  have q2:tdg b j=0:=zcT hb (by omega)
  have k1:=Nat.mod_lt a (zdj j)
  have k2:=Nat.mod_lt b (zdj j)
  have:(a%10000^j+b%10000^j)/10000^j<2:=by rw[Nat.div_lt_iff_lt_mul (zdj j)];omega
  rw[q1,q2]
  generalize (a%10000^j+b%10000^j)/10000^j=z at *
  omega
 generalize hC:(a%10000^i+b%10000^i)/10000^i=c at *
 have pa:=zps (i:=i) ha (by omega) (by omega)
 have pb:=zps (i:=i) hb (by omega) (by omega)
 by_cases hlt:i<n∨i<m∨c≠0
 ·have hi':i<max n m+1:=by
   rcases Nat.lt_or_ge i (max n m+1) with q|q
   ·exact q
   ·have:=hz1 q;omega
  obtain⟨v',M',he,hg',_⟩:=zfs hg (PV.i .i64 ((tdg (a+b) i:Nat):Int)) (by simp;omega)
  rw[zeN i fun k=>(PV.i .i64 ((tdg (a+b) k:Nat):Int))] at hg'
  have tm:((tdg a i:Int)+(tdg b i:Int)+(c:Int)).tmod 10000=((tdg (a+b) i:Nat):Int):=by
   rw[t1,←Int.natCast_add,←Int.natCast_add];exact zcd _ 10000
  have td:((tdg a i:Int)+(tdg b i:Int)+(c:Int)).tdiv 10000=(((a%10000^(i+1)+b%10000^(i+1))/10000^(i+1):Nat):Int):=by
   rw[t2,←Int.natCast_add,←Int.natCast_add];exact zbn _ 10000
  have fin:∀(fr':PFr),fr' 0=Tw n a→fr' 1=Tw m b→fr' 6=(PV.i .i64 (((a%10000^(i+1)+b%10000^(i+1))/10000^(i+1):Nat):Int))→fr' 7=.i .i64 ((i:Int)+1)→fr' 5=v'→_:=fun fr' g0 g1 g6 g7 g5=>ih (i+1) fr' M' (by omega) ⟨by omega,g0,g1,g6,by rw[g7,Int.natCast_succ],by rw[g5];exact hg'⟩
  by_cases c1:i<n
  ·have q1:((i:Int)<(n:Int))=True:=by simp;omega
   simp(disch:=omega)only[go_sem,seval,wqq,h0,h1,h6,h7,q1,pa,pb,tm,he,td]
   exact fin _ (by simp only[go_sem,seval,h0]) (by simp only[go_sem,seval,h1]) (by simp only[go_sem,seval]) (by simp only[go_sem,seval]) (by simp only[go_sem,seval])
  ·have q1:((i:Int)<(n:Int))=False:=by simp;omega
   by_cases c2:i<m
   ·have q2:((i:Int)<(m:Int))=True:=by simp;omega
    simp(disch:=omega)only[go_sem,seval,wqq,h0,h1,h6,h7,q1,q2,pa,pb,tm,he,td]
    exact fin _ (by simp only[go_sem,seval,h0]) (by simp only[go_sem,seval,h1]) (by simp only[go_sem,seval]) (by simp only[go_sem,seval]) (by simp only[go_sem,seval])
   ·have q2:((i:Int)<(m:Int))=False:=by simp;omega
    have q3:((c:Int)>0)=True:=by simp;omega
    simp(disch:=omega)only[go_sem,seval,wqq,h0,h1,h6,h7,q1,q2,q3,pa,pb,tm,he,td]
    exact fin _ (by simp only[go_sem,seval,h0]) (by simp only[go_sem,seval,h1]) (by simp only[go_sem,seval]) (by simp only[go_sem,seval]) (by simp only[go_sem,seval])
 ·have q1:((i:Int)<(n:Int))=False:=by simp;omega
  have q2:((i:Int)<(m:Int))=False:=by simp;omega
  have q3:((c:Int)>0)=False:=by simp;omega
  simp(disch:=omega)only[go_sem,seval,wqq,h0,h1,h6,h7,q1,q2,q3]
  exact⟨_,zkX 10 hg,i,rfl,hz (by omega) (by omega),hi⟩
theorem zeB {n m a b s:Nat} (hs:a=s+b) (ha:a<10000^n) (hb:b<10000^m) (hn:n<1000000000) (hm:m<1000000000) :
  pf E0 135 [Tw n a,Tw m b]=some (Tw n s):=by
 refine zaa (xf:=zwB) rfl (by simp[zwB]) ?_
 simp only[zwB]
 simp(disch:=omega)only[go_sem,seval,wqq,Int.natCast_zero]
 refine zan zxt.eq_1 (fun(i:Nat) fr M=>i≤n∧fr 0=Tw n a∧fr 1=Tw m b∧fr 6=(PV.i .i64 (((s%10000^i+b%10000^i)/10000^i:Nat):Int))∧fr 7=(PV.i .i64 ((i:Nat):Int))∧Grows M (fr 5) (tab i fun k=>(PV.i .i64 ((tdg s k:Nat):Int)))) (fun i=>n-i) ?_ 0 ⟨by omega,by simp only[go_sem,seval],by simp only[go_sem,seval],by simp only[go_sem,seval];try simp[Nat.mod_one],by simp only[go_sem,seval];try simp,.inl ⟨rfl,by simp only[go_sem,seval]⟩⟩
 rintro i fr M ⟨hi,h0,h1,h6,h7,hg⟩ ih
 obtain⟨t1,t2⟩:=zje s b i
 rw[←hs] at t1
 have d1:tdg s i<10000:=by rw[zak];exact Nat.mod_lt _ (by decide)
 have d2:tdg b i<10000:=by rw[zak];exact Nat.mod_lt _ (by decide)
 have hc:(s%10000^i+b%10000^i)/10000^i≤1:=by
  have k1:=Nat.mod_lt s (zdj i)
  have k2:=Nat.mod_lt b (zdj i)
  have:(s%10000^i+b%10000^i)/10000^i<2:=by rw[Nat.div_lt_iff_lt_mul (zdj i)];omega
  omega
 have pa:=zps (i:=i) ha (by omega) (by omega)
 have pb:=zps (i:=i) hb (by omega) (by omega)
 by_cases hlt:i<n
 ·have q1:((i:Int)<(n:Int))=True:=by simp;omega
  have fin:∀(fr':PFr) (v':PV) (M':PM),Grows M' v' (tab (i+1) fun k=>(PV.i .i64 ((tdg s k:Nat):Int)))→fr' 0=Tw n a→fr' 1=Tw m b→fr' 6=(PV.i .i64 (((s%10000^(i+1)+b%10000^(i+1))/10000^(i+1):Nat):Int))→fr' 7=.i .i64 ((i:Int)+1)→fr' 5=v'→_:=fun fr' v' M' hg' g0 g1 g6 g7 g5=>ih (i+1) fr' M' (by omega) ⟨by omega,g0,g1,g6,by rw[g7,Int.natCast_succ],by rw[g5];exact hg'⟩
  obtain⟨v',M',he,hg',_⟩:=zfs hg (PV.i .i64 ((tdg s i:Nat):Int)) (by simp;omega)
  rw[zeN i fun k=>(PV.i .i64 ((tdg s k:Nat):Int))] at hg'
  rw[t2] at fin
  generalize (s%10000^i+b%10000^i)/10000^i=c at *
  have hw:(tdg a i:Int)-(tdg b i:Int)-(c:Int)<10000 ∧ -10001<(tdg a i:Int)-(tdg b i:Int)-(c:Int):=by omega
  by_cases hneg:tdg s i+tdg b i+c<10000
  ·have q2:((tdg a i:Int)-(tdg b i:Int)-(c:Int)<0)=False:=by simp;omega
   have q3:(tdg a i:Int)-(tdg b i:Int)-(c:Int)=(tdg s i:Nat):=by omega
   have q4:(tdg s i+tdg b i+c)/10000=0:=by omega
   rw[q4] at fin
   simp(disch:=omega)only[go_sem,seval,wqq,h0,h1,h6,h7,q1,pa,pb,q2]
   simp(disch:=omega)only[go_sem,seval,wqq,h0,h1,h6,h7,q3,he]
   exact fin _ v' M' hg' (by simp only[go_sem,seval,h0]) (by simp only[go_sem,seval,h1]) (by simp only[go_sem,seval];try rfl) (by simp only[go_sem,seval]) (by simp only[go_sem,seval])
  ·have q2:((tdg a i:Int)-(tdg b i:Int)-(c:Int)<0)=True:=by simp;omega
   have q3:(tdg a i:Int)-(tdg b i:Int)-(c:Int)+10000=(tdg s i:Nat):=by omega
   have q4:(tdg s i+tdg b i+c)/10000=1:=by omega
   rw[q4] at fin
   simp(disch:=omega)only[go_sem,seval,wqq,h0,h1,h6,h7,q1,pa,pb,q2,q3,he]
   exact fin _ v' M' hg' (by simp only[go_sem,seval,h0]) (by simp only[go_sem,seval,h1]) (by simp only[go_sem,seval];try rfl) (by simp only[go_sem,seval]) (by simp only[go_sem,seval])
 ·have q1:((i:Int)<(n:Int))=False:=by simp;omega
  have:i=n:=by omega
  subst this
  simp(disch:=omega)only[go_sem,seval,wqq,h0,h1,h6,h7,q1]
  exact zkX 10 hg
end Go.Eng
namespace Go.Eng
theorem zng {P T s c d r:Nat} (hP:0<P) (hT:T=s%P+P*c) (hs:s=T+P*d+P*10000*r) :
  s/P%10000=(c+d)%10000∧T+P*d=s%(P*10000)+P*10000*((c+d)/10000):=by
 have e1:s/P=c+d+10000*r:=by
  have h1:=Nat.div_add_mod s P
  have h2:P*(s/P)=P*(c+d+10000*r):=by
   rw[Nat.mul_add,Nat.mul_add,←Nat.mul_assoc];omega
  exact Nat.eq_of_mul_eq_mul_left hP h2
 have e2:s/P%10000=(c+d)%10000:=by omega
 refine⟨e2,?_⟩
 rw[Nat.mod_mul,e2,hT]
 have h3:=Nat.div_add_mod (c+d) 10000
 have h4:P*(c+d)=P*10000*((c+d)/10000)+P*((c+d)%10000):=by
  rw[Nat.mul_assoc,←Nat.mul_add,h3]
 rw[Nat.mul_add] at h4
 omega
theorem zlp (a i:Nat):a=a%10000^i+10000^i*tdg a i+10000^i*10000*(a/(10000^i*10000)):=by
 have h:=zbm a i
 have h2:=Nat.div_add_mod a (10000^i*10000)
 rw[Nat.pow_succ] at h
 omega
theorem zmO (P w b i j:Nat):P+w*10000^i*b=(P%10000^(i+j)+w*10000^i*(b%10000^j))+10000^(i+j)*(tdg P (i+j)+w*tdg b j)+10000^(i+j)*10000*(P/(10000^(i+j)*10000)+w*(b/(10000^j*10000))):=by
 have sp:=zlp P (i+j)
 have sb:=zlp b j
 rw[Nat.pow_add] at sp ⊢
 generalize 10000^i=p at *
 generalize 10000^j=q at *
 generalize P%(p*q)=r1 at *
 generalize P/(p*q*10000)=r2 at *
 generalize b%q=r3 at *
 generalize b/(q*10000)=r4 at *
 generalize tdg P (i+j)=r5 at *
 generalize tdg b j=r6 at *
 subst sp sb
 grind
theorem zkH (a b:Nat):tlen (a+b)≤max (tlen a) (tlen b)+1:=by
 rw[zaQ,Nat.pow_succ]
 have h1:=zaj a
 have h2:=zaj b
 have h3:10000^tlen a≤10000^max (tlen a) (tlen b):=Nat.pow_le_pow_right (by decide) (by omega)
 have h4:10000^tlen b≤10000^max (tlen a) (tlen b):=Nat.pow_le_pow_right (by decide) (by omega)
 omega
theorem zgD (x y:Int) (hx:tlen x.natAbs<100000000) (hy:tlen y.natAbs<100000000):pf E0 119 [nP x,nP y]=some (nP (x+y)):=by
 refine zaa (xf:=zw7) rfl (by simp[zw7]) ?_
 simp only[zw7]
 have c1:=zce x.natAbs y.natAbs (by omega) (by omega)
 obtain⟨k,hk1,hk2,hk3⟩:=zow (zaj x.natAbs) (zaj y.natAbs) (by omega) (by omega)
 have n1:=zaq (decide (x<0)) k (x.natAbs+y.natAbs) hk2 (by omega)
 by_cases hs:(decide (x<0))=decide (y<0)
 ·have e1:sgn (decide (x<0)) (x.natAbs+y.natAbs)=x+y:=by
   unfold sgn
   by_cases h:x<0
   ·have h':y<0:=by simpa [h] using hs
    simp[h];omega
   ·have h':¬y<0:=by simpa [h] using hs
    simp[h];omega
  rw[e1] at n1
  have hb:(decide (x<0)==decide (y<0))=true:=by simpa using hs
  simp only[go_sem,seval,hb]
  refine za9 rfl ?_
  simp only[go_sem,seval,hk1,n1]
 ·have hb:(decide (x<0)==decide (y<0))=false:=by simpa using hs
  by_cases hlt:x.natAbs<y.natAbs
  ·have hc:(cmpI (x.natAbs:Int) (y.natAbs:Int)<0)=True:=by unfold cmpI;simp;omega
   have hm:=zeB (a:=y.natAbs) (b:=x.natAbs) (s:=y.natAbs-x.natAbs) (by omega) (zaj _) (zaj _) (by omega) (by omega)
   have n2:=zaq (decide (y<0)) (tlen y.natAbs) (y.natAbs-x.natAbs) (Nat.lt_of_le_of_lt (Nat.sub_le _ _) (zaj _)) (by omega)
   have e1:sgn (decide (y<0)) (y.natAbs-x.natAbs)=x+y:=by
    unfold sgn
    by_cases h:x<0
    ·have h':¬y<0:=fun q=>hs (by simp[h,q])
     simp[h'];omega
    ·have h':y<0:=by
      rcases Int.lt_or_le y 0 with q|q
      ·exact q
      ·exact absurd (by simp[h,show ¬y<0 by omega]) hs
     simp[h'];omega
   rw[e1] at n2
   simp only[go_sem,seval,hb,c1,hc]
   refine za9 rfl ?_
   simp only[go_sem,seval,hm,n2]
  ·have hc:(cmpI (x.natAbs:Int) (y.natAbs:Int)<0)=False:=by unfold cmpI;simp;omega
   have hm:=zeB (a:=x.natAbs) (b:=y.natAbs) (s:=x.natAbs-y.natAbs) (by omega) (zaj _) (zaj _) (by omega) (by omega)
   have n2:=zaq (decide (x<0)) (tlen x.natAbs) (x.natAbs-y.natAbs) (Nat.lt_of_le_of_lt (Nat.sub_le _ _) (zaj _)) (by omega)
   have e1:sgn (decide (x<0)) (x.natAbs-y.natAbs)=x+y:=by
    unfold sgn
    by_cases h:x<0
    ·have h':¬y<0:=fun q=>hs (by simp[h,q])
     simp[h];omega
    ·have h':y<0:=by
      rcases Int.lt_or_le y 0 with q|q
      ·exact q
      ·exact absurd (by simp[h,show ¬y<0 by omega]) hs
     simp[h];omega
   rw[e1] at n2
   simp only[go_sem,seval,hb,c1,hc]
   refine za9 rfl ?_
   simp only[go_sem,seval,hm,n2]
theorem zox (x y:Int) (hx:tlen x.natAbs<100000000) (hy:tlen y.natAbs<100000000):pf E0 121 [nP x,nP y]=some (nP (x-y)):=by
 refine zaa (xf:=zw8) rfl (by simp[zw8]) ?_
 simp only[zw8]
 have h1:=zc1 y (by omega)
 have h2:=zgD x (-y) hx (by rw[Int.natAbs_neg];exact hy)
 rw[←Int.sub_eq_add_neg] at h2
 simp only[go_sem,seval]
 refine za9 rfl ?_
 simp only[go_sem,seval,h1,h2]
theorem zi8 {F:PFin} {ks:List KI} {s t:Bool} {n m P x b w i e0:Nat} (hb:b<10000^m) (hw:w<10000) (hwx:tdg x i=w) (hi:i<n) (hn:n<100000000) (hm:m<100000000) {fr:PFr} {M:PM} (h2:fr 2=.p 0 0) (h3:fr 3=.p 1 0) (h4:fr 4=.p 2 0) (h5:fr 5=.sl 3 0 (n+m) (n+m) 1)
  (h6:fr 6=(PV.i .i64 ((i:Nat):Int))) (h7:fr 7=.i .i64 0) (h8:fr 8=.i .i64 0) (hM:M=[some ⟨[.b s,Tw n x],true,0⟩,some ⟨[.b t,Tw m b],true,0⟩,some ⟨[.b false,.nl],true,0⟩,some ⟨tab (n+m) fun k=>(PV.i .i64 ((tdg P k:Nat):Int)),true,e0⟩])
  (cont:∀fr' e c,fr' 2=.p 0 0→fr' 3=.p 1 0→fr' 4=.p 2 0→fr' 5=.sl 3 0 (n+m) (n+m) 1→fr' 6=(PV.i .i64 ((i:Nat):Int))→fr' 7=(PV.i .i64 ((c:Nat):Int))→c<10000→P%10000^(i+m)+w*10000^i*b=(P+w*10000^i*b)%10000^(i+m)+10000^(i+m)*c →
   UK E0 F (.exit 2) ks fr' [some ⟨[.b s,Tw n x],true,0⟩,some ⟨[.b t,Tw m b],true,0⟩,some ⟨[.b false,.nl],true,0⟩,some ⟨tab (n+m) (fun k=>(PV.i .i64 ((if k<i+m then tdg (P+w*10000^i*b) k else tdg P k:Nat):Int))),true,e⟩]):WK E0 F (.loop zxk) ks fr M:=by
 refine zan zxk.eq_1 (fun(j:Nat) fr M=>j≤m∧fr 2=.p 0 0∧fr 3=.p 1 0∧fr 4=.p 2 0∧fr 5=.sl 3 0 (n+m) (n+m) 1∧fr 6=(PV.i .i64 ((i:Nat):Int))∧fr 8=(PV.i .i64 ((j:Nat):Int)) ∧
  ∃c e:Nat,fr 7=(PV.i .i64 ((c:Nat):Int))∧M=[some ⟨[.b s,Tw n x],true,0⟩,some ⟨[.b t,Tw m b],true,0⟩,some ⟨[.b false,.nl],true,0⟩,some ⟨tab (n+m) fun k=>(PV.i .i64 ((if k<i+j then tdg (P+w*10000^i*b) k else tdg P k:Nat):Int)),true,e⟩]∧c<10000∧P%10000^(i+j)+w*10000^i*(b%10000^j)=(P+w*10000^i*b)%10000^(i+j)+10000^(i+j)*c)
  (fun j=>m-j) ?_ 0 ⟨Nat.zero_le _,h2,h3,h4,h5,h6,h8,0,e0,h7,?_,by decide,?_⟩
 ·rintro j fr M ⟨hj,h2,h3,h4,h5,h6,h8,c,e,h7,rfl,hc,hinv⟩ ih
  by_cases hjm:j<m
  ·have hc0:((j:Int)<(m:Int))=True:=by simp;omega
   have db:tdg b j<10000:=by rw[zak];exact Nat.mod_lt _ (by decide)
   have dp:tdg P (i+j)<10000:=by rw[zak];exact Nat.mod_lt _ (by decide)
   have hget:(tab (n+m) fun k=>(PV.i .i64 ((if k<i+j then tdg (P+w*10000^i*b) k else tdg P k:Nat):Int)))[i+j]?=some (PV.i .i64 ((tdg P (i+j):Nat):Int)):=by rw[zaL (by omega),if_neg (by omega)]
   have hij:((i:Int)+(j:Int))=((i+j:Nat):Int):=by omega
   have j1:((j:Int)+1)=((j+1:Nat):Int):=by omega
   have hmul:w*tdg b j≤9999*9999:=Nat.mul_le_mul (by omega) (by omega)
   have hww:((tdg x i:Int)*(tdg b j:Int))=((w*tdg b j:Nat):Int):=by rw[hwx];simp
   have hadd:((tdg P (i+j):Int)+((w*tdg b j:Nat):Int)+(c:Int))=((w*tdg b j+tdg P (i+j)+c:Nat):Int):=by omega
   have hlt:i+j<n+m:=by omega
   have td:((w*tdg b j+tdg P (i+j)+c:Nat):Int).tdiv 10000=(((w*tdg b j+tdg P (i+j)+c)/10000:Nat):Int):=zbn _ 10000
   have tm:((w*tdg b j+tdg P (i+j)+c:Nat):Int).tmod 10000=(((w*tdg b j+tdg P (i+j)+c)%10000:Nat):Int):=zcd _ 10000
   simp(disch:=omega)only[go_sem,seval,wqq,h2,h3,h5,h6,h7,h8,hc0,zbK,hij,hget,hww,hadd,hlt,j1,zar,tm,td]
   obtain⟨k1,k2⟩:=zng (c:=c) (zdj (i+j)) hinv (zmO P w b i j)
   have hx:c+(tdg P (i+j)+w*tdg b j)=w*tdg b j+tdg P (i+j)+c:=by omega
   rw[hx] at k1 k2
   refine ih (j+1) _ _ (by omega) ⟨by omega,by simp only[go_sem,seval,h2],by simp only[go_sem,seval,h3],by simp only[go_sem,seval,h4],by simp only[go_sem,seval,h5],by simp only[go_sem,seval,h6],by simp only[go_sem,seval],(w*tdg b j+tdg P (i+j)+c)/10000,e+1,by simp only[go_sem,seval],?_,by omega,?_⟩
   ·congr 6
    refine zae fun k hk=>?_
    by_cases hki:k=i+j
    ·subst hki
     rw[if_pos rfl,if_pos (by omega)]
     congr 2;rw[zak (P+w*10000^i*b)];exact k1.symm
    ·rw[if_neg hki]
     congr 2
     by_cases h:k<i+j
     ·rw[if_pos h,if_pos (by omega)]
     ·rw[if_neg h,if_neg (by omega)]
   ·rw[show i+(j+1)=i+j+1 by omega,Nat.pow_succ,←k2,←Nat.pow_succ,zbm P,zbm b]
    rw[Nat.pow_add]
    grind
  ·have hc0:((j:Int)<(m:Int))=False:=by simp;omega
   obtain rfl:j=m:=by omega
   simp only[go_sem,seval,h2,h3,h8,hc0]
   rw[Nat.mod_eq_of_lt hb] at hinv
   exact cont _ e c (by simp only[go_sem,seval,h2]) (by simp only[go_sem,seval,h3]) (by simp only[go_sem,seval,h4]) (by simp only[go_sem,seval,h5]) (by simp only[go_sem,seval,h6]) (by simp only[go_sem,seval,h7]) hc hinv
 ·rw[hM]
  congr 6
  refine zae fun k hk=>?_
  congr 2
  by_cases h:k<i+0
  ·rw[if_pos h,zak,zak]
   have e1:(10000:Nat)^i=10000^k*(10000^(i-k-1)*10000):=by
    rw[←Nat.pow_succ,←Nat.pow_add];congr 1;omega
   rw[e1,show w*(10000^k*(10000^(i-k-1)*10000))*b=10000^k*(10000*(w*10000^(i-k-1)*b)) by grind,Nat.add_mul_div_left _ _ (zdj k),Nat.add_mul_mod_self_left]
  ·rw[if_neg h]
 ·have e1:P+w*10000^i*b=P+10000^i*(w*b):=by grind
  rw[Nat.add_zero,Nat.pow_zero,Nat.mod_one,e1,Nat.add_mul_mod_self_left];simp
noncomputable def nPw (s:Bool) (n a:Nat):PV:=.ag [.b s,Tw n a]
@[go_sem] theorem znk (s:Bool) (n a:Nat):(nPw s n a).cells=[.b s,Tw n a]:=_root_.id rfl
theorem ziq (x:Int):nP x=nPw (decide (x<0)) (tlen x.natAbs) x.natAbs:=rfl
theorem zmy (s t:Bool):pf E0 118 [nPw s 0 0,nPw t 0 0]=some (nP 0):=by
 refine zaa (xf:=zv2) rfl (by simp[zv2]) ?_
 simp only[zv2]
 have hno:=zaq (!(s==t)) 0 0 (by decide) (by omega)
 have hz:(Tw 0 0:PV)=.lst []:=rfl
 rw[show sgn (!(s==t)) 0=0 by unfold sgn;split<;>rfl,hz] at hno
 simp(disch:=omega)only[go_sem,seval,wqq,Int.natCast_zero,Int.add_zero,zcs,Int.reduceLE,Int.reduceToNat,zds]
 refine zcW ?_
 simp only[zxe]
 simp(disch:=omega)only[go_sem,seval,wqq,Int.natCast_zero,Int.lt_irrefl,hno]
 rfl
theorem zmz {s t:Bool} {n m a b:Nat} (ha:a<10000^n) (hb:b<10000^m) (hn:n<100000000) (hm:m<100000000) (h0:n+m≠0):pf E0 118 [nPw s n a,nPw t m b]=some (nP (sgn (!(s==t)) (a*b))):=by
 refine zaa (xf:=zv2) rfl (by simp[zv2]) ?_
 simp only[zv2]
 have hnm:((n:Int)+(m:Int))=((n+m:Nat):Int):=by omega
 have hab:a*b<10000^(n+m):=by rw[Nat.pow_add];exact Nat.mul_lt_mul'' ha hb
 have hno:=zaq (!(s==t)) (n+m) (a*b) hab (by omega)
 simp(disch:=omega)only[go_sem,seval,wqq,hnm,zch,Int.natCast_zero]
 refine zan zxe.eq_1 (fun(i:Nat) fr M=>i≤n∧fr 2=.p 0 0∧fr 3=.p 1 0∧fr 4=.p 2 0∧fr 5=.sl 3 0 (n+m) (n+m) 1∧fr 6=(PV.i .i64 ((i:Nat):Int)) ∧
  ∃e:Nat,M=[some ⟨[.b s,Tw n a],true,0⟩,some ⟨[.b t,Tw m b],true,0⟩,some ⟨[.b false,.nl],true,0⟩,some ⟨tab (n+m) fun k=>(PV.i .i64 ((tdg (a%10000^i*b) k:Nat):Int)),true,e⟩]) (fun i=>n-i) ?_ 0 ⟨Nat.zero_le _,by simp only[go_sem,seval],by simp only[go_sem,seval],by simp only[go_sem,seval],by simp only[go_sem,seval],by simp only[go_sem,seval];try rfl,0,?_⟩
 ·rintro i fr M ⟨hi,h2,h3,h4,h5,h6,e,rfl⟩ ih
  by_cases hin:i<n
  ·have hc0:((i:Int)<(n:Int))=True:=by simp;omega
   have i1:((i:Int)+1)=((i+1:Nat):Int):=by omega
   have da:tdg a i<10000:=by rw[zak];exact Nat.mod_lt _ (by decide)
   simp(disch:=omega)only[go_sem,seval,wqq,h2,h3,h4,h5,h6,hc0]
   refine zi8 (n:=n) (P:=a%10000^i*b) (w:=tdg a i) hb da rfl hin (by omega) (by omega) (by simp only[go_sem,seval,h2]) (by simp only[go_sem,seval,h3]) (by simp only[go_sem,seval,h4]) (by simp only[go_sem,seval,h5]) (by simp only[go_sem,seval,h6]) (by simp only[go_sem,seval]) (by simp only[go_sem,seval]) rfl fun fr' e' c g2 g3 g4 g5 g6 g7 hc hinv=>?_
   have him:((i:Int)+(m:Int))=((i+m:Nat):Int):=by omega
   have hlt:i+m<n+m:=by omega
   simp(disch:=omega)only[go_sem,seval,wqq,g2,g3,g4,g5,g6,g7,him,hlt,i1,zar]
   have hP:a%10000^(i+1)*b=a%10000^i*b+tdg a i*10000^i*b:=by rw[zbm];grind
   have hPl:a%10000^i*b<10000^(i+m):=by
    rw[Nat.pow_add]
    exact Nat.mul_lt_mul'' (Nat.mod_lt _ (zdj i)) hb
   refine ih (i+1) _ _ (by omega) ⟨by omega,by simp only[go_sem,seval,g2],by simp only[go_sem,seval,g3],by simp only[go_sem,seval,g4],by simp only[go_sem,seval,g5],by simp only[go_sem,seval],e'+1,?_⟩
   congr 6
   refine zae fun k hk=>?_
   rw[hP]
   rw[Nat.mod_eq_of_lt hPl] at hinv
   have hval:a%10000^i*b+tdg a i*10000^i*b=(a%10000^i*b+tdg a i*10000^i*b)%10000^(i+m)+10000^(i+m)*c:=hinv
   have hd:(a%10000^i*b+tdg a i*10000^i*b)/10000^(i+m)=c:=by
    have h1:=Nat.div_add_mod (a%10000^i*b+tdg a i*10000^i*b) (10000^(i+m))
    exact Nat.eq_of_mul_eq_mul_left (zdj (i+m)) (by omega)
   by_cases hki:k=i+m
   ·subst hki
    rw[if_pos rfl,zak,hd]
    congr 2;omega
   ·rw[if_neg hki]
    congr 2
    by_cases h:k<i+m
    ·rw[if_pos h]
    ·rw[if_neg h,zcT hPl (by omega)]
     have:a%10000^i*b+tdg a i*10000^i*b<10000^(i+m+1):=by
      rw[Nat.pow_succ]
      have h2:=Nat.mod_lt (a%10000^i*b+tdg a i*10000^i*b) (zdj (i+m))
      have h3:10000^(i+m)*(c+1)≤10000^(i+m)*10000:=Nat.mul_le_mul_left _ (by omega)
      rw[Nat.mul_add] at h3
      omega
     rw[zcT this (by omega)]
  ·have hc0:((i:Int)<(n:Int))=False:=by simp;omega
   obtain rfl:i=n:=by omega
   rw[Nat.mod_eq_of_lt ha]
   have h0':(i+m=0)=False:=by simp;omega
   simp(disch:=omega)only[go_sem,seval,wqq,h2,h3,h4,h5,h6,hc0,h0',hno]
 ·rw[zb7]
  congr 6
  refine zae fun k hk=>?_
  simp[Nat.mod_one,zkF]
theorem ziM {s t:Bool} {n m a b:Nat} (ha:a<10000^n) (hb:b<10000^m) (hn:n<100000000) (hm:m<100000000):pf E0 118 [nPw s n a,nPw t m b]=some (nP (sgn (!(s==t)) (a*b))):=by
 by_cases h0:n+m=0
 ·obtain rfl:n=0:=by omega
  obtain rfl:m=0:=by omega
  obtain rfl:a=0:=by simpa using ha
  obtain rfl:b=0:=by simpa using hb
  rw[zmy]
  unfold sgn;split<;>rfl
 ·exact zmz ha hb hn hm h0
theorem zci (x y:Int) (hx:tlen x.natAbs<100000000) (hy:tlen y.natAbs<100000000):pf E0 118 [nP x,nP y]=some (nP (x*y)):=by
 rw[ziq x,ziq y,ziM (zaj _) (zaj _) hx hy]
 congr 2
 have e:((x.natAbs*y.natAbs:Nat):Int)=(x*y).natAbs:=by rw[Int.natAbs_mul]
 unfold sgn
 by_cases h:x<0
 ·by_cases h':y<0
  ·have:=Int.mul_pos_of_neg_of_neg h h'
   simp only[h,h',decide_true]
   rw[e]
   simp;omega
  ·have:=Int.mul_nonneg (show 0 ≤ -x by omega) (show 0≤y by omega)
   rw[Int.neg_mul] at this
   simp only[h,h',decide_true,decide_false]
   rw[e]
   simp;omega
 ·by_cases h':y<0
  ·have:=Int.mul_nonneg (show 0≤x by omega) (show 0 ≤ -y by omega)
   rw[Int.mul_neg] at this
   simp only[h,h',decide_true,decide_false]
   rw[e]
   simp;omega
  ·have:=Int.mul_nonneg (show 0≤x by omega) (show 0≤y by omega)
   simp only[h,h',decide_false]
   rw[e]
   simp;omega
end Go.Eng
namespace Go.Eng
theorem zad {v n:Nat} (h:v<10000^n):tlen v≤n:=zaQ.2 h
theorem zbo (a i:Nat):a/10000^(i+1)=a/10000^i/10000:=by rw[Nat.pow_succ,Nat.div_div_eq_div_mul]
theorem zku {M:PM} {k j:Nat} {b:PB} (h:PM.blk M j=some b) (hne:k≠j):PM.blk (roB M k) j=some b:=by
 unfold roB
 split
 ·rw[zbH hne];exact h
 ·exact h
theorem zge {M:PM} {v:PV} {n:Nat} {g:Nat→Int} (h:Grows M v (tab n fun k=>PV.i .i64 (g k))) :
  ∃ns,(∀d,fz M (d+1+1) v=some (.lst (tab n fun k=>PV.i .i64 (g k)),ns))∧∀j b,PM.blk M j=some b→NotIn v j→PM.blk (roM M ns) j=some b:=by
 rcases h with⟨h,rfl⟩|⟨k,e,rfl,hb⟩
 ·exact⟨[],fun d=>by rw[h];rfl,fun j b hj _=>hj⟩
 ·by_cases hn:n=0
  ·subst hn
   exact⟨[],fun d=>rfl,fun j b hj _=>hj⟩
  ·refine⟨[k],fun d=>?_,fun j b hj hne=>zku hj hne⟩
   simp(disch:=omega)only[go_sem,seval,wqq,hb]
   rw[if_neg hn]
theorem zcB (n:Int) (h:Fits64 n):pf E0 114 [.i .i64 n]=some (nP n):=by
 refine zaa (xf:=zxh) rfl (by simp[zxh]) ?_
 simp only[zxh]
 have hf:=h
 unfold Fits64 at h
 simp(disch:=omega)only[go_sem,seval,wqq]
 refine zan zxK.eq_1 (fun(z:Int) fr M=>fr 0=.i .i64 z∧fr 2=.p 0 0∧fr 4=.b (decide (n<0)) ∧ -9223372036854775808≤z∧z≤9223372036854775807 ∧
  ∃i,i+tlen z.natAbs≤20∧z.natAbs=n.natAbs/10000^i∧PM.blk M 0=some ⟨[.b false,.nl],true,0⟩∧NotIn (fr 3) 0∧Grows M (fr 3) (tab i fun k=>(PV.i .i64 ((tdg n.natAbs k:Nat):Int)))) (fun z=>z.natAbs) ?_ n ⟨by simp only[go_sem,seval],by simp only[go_sem,seval],by simp only[go_sem,seval],by omega,by omega,0,?_,by simp,rfl,by simp only[go_sem,seval];trivial,.inl ⟨rfl,by simp only[go_sem,seval]⟩⟩
 ·rintro z fr M ⟨h0,h2,h4,z1,z2,i,hi,hz,hb,hni,hg⟩ ih
  by_cases hz0:z=0
  ·subst hz0
   have hlt:n.natAbs<10000^i:=by
    have:=hz.symm
    rcases Nat.div_eq_zero_iff.1 this with q|q
    ·have:=zdj i;omega
    ·exact q
   have hno:=zaq (decide (n<0)) i n.natAbs hlt (by omega)
   have e1:sgn (decide (n<0)) n.natAbs=n:=by
    unfold sgn
    by_cases q:n<0
    ·simp[q];omega
    ·simp[q];omega
   rw[e1] at hno
   obtain⟨ns,f1,f2⟩:=zge hg
   have f3:=f2 0 _ hb hni
   have f4:=zbZ f3
   simp(disch:=omega)only[go_sem,seval,wqq,h0,h2,h4,f1,hno,f3,zbG]
  ·have r1:(z.tmod 10000).natAbs=z.natAbs%10000:=by rw[Int.natAbs_tmod];rfl
   have r2:(z.tdiv 10000).natAbs=z.natAbs/10000:=by rw[Int.natAbs_tdiv];rfl
   have dd:z.natAbs%10000=tdg n.natAbs i:=by rw[hz,zak]
   have ql:z.natAbs/10000=n.natAbs/10000^(i+1):=by rw[zbo,hz]
   have tl:i+1+tlen (z.natAbs/10000)≤20:=by
    have:tlen (z.natAbs/10000)≤tlen z.natAbs-1:=by
     rw[zaQ]
     have h1:=zaj z.natAbs
     have h2:=zaR (v:=z.natAbs) (by omega)
     rw[show tlen z.natAbs=tlen z.natAbs-1+1 by omega,Nat.pow_succ] at h1
     exact Nat.div_lt_of_lt_mul (by omega)
    have h2:=zaR (v:=z.natAbs) (by omega)
    omega
   obtain⟨v',M',he,hg',hk⟩:=zfs hg (PV.i .i64 ((tdg n.natAbs i:Nat):Int)) (by simp;omega)
   rw[zeN i fun k=>(PV.i .i64 ((tdg n.natAbs k:Nat):Int))] at hg'
   obtain⟨hk1,hk2⟩:=hk 0 _ hb hni
   have q1:((z=0)=False):=by simp[hz0]
   generalize hr:z.tmod 10000=r at *
   generalize hq:z.tdiv 10000=q at *
   by_cases hr0:r<0
   ·have e1:(0:Int)-r=(tdg n.natAbs i:Nat):=by omega
    simp(disch:=omega)only[go_sem,seval,wqq,h0,h2,h4,q1,hr,hq,hr0,e1,he]
    exact ih q _ M' (by omega) ⟨by simp only[go_sem,seval],by simp only[go_sem,seval,h2],by simp only[go_sem,seval,h4],by omega,by omega,i+1,by rw[r2];exact tl,by rw[r2,ql],hk1,by simp only[go_sem,seval];exact hk2,by simp only[go_sem,seval];exact hg'⟩
   ·have e1:r=(tdg n.natAbs i:Nat):=by omega
    rw[←e1] at he
    simp(disch:=omega)only[go_sem,seval,wqq,h0,h2,h4,q1,hr,hq,hr0,he]
    exact ih q _ M' (by omega) ⟨by simp only[go_sem,seval],by simp only[go_sem,seval,h2],by simp only[go_sem,seval,h4],by omega,by omega,i+1,by rw[r2];exact tl,by rw[r2,ql],hk1,by simp only[go_sem,seval];exact hk2,by simp only[go_sem,seval];exact hg'⟩
 ·rw[Nat.zero_add];exact zad (by omega)
end Go.Eng
namespace Go.Eng
theorem zgE {n a k:Nat} (ha:a<10000^n) (hn:n<100000000) (hk:k<10000):pf E0 149 [Tw n a,(PV.i .i64 ((k:Nat):Int))]=some (T (a*k)):=by
 refine zaa (xf:=zwt) rfl (by simp[zwt]) ?_
 simp only[zwt]
 have ho:=zcB (k:Int) (by unfold Fits64;omega)
 have hl:tlen (k:Int).natAbs<100000000:=by
  have:tlen k≤1:=zad (by rw[Nat.pow_one];exact hk)
  rw[Int.natAbs_natCast];omega
 have hm:=ziM (s:=false) (t:=decide ((k:Int)<0)) ha (zaj (k:Int).natAbs) hn hl
 have e:sgn (!(false==decide ((k:Int)<0))) (a*(k:Int).natAbs)=((a*k:Nat):Int):=by
  have:decide ((k:Int)<0)=false:=by simp
  rw[this];simp[sgn]
 rw[←ziq,e] at hm
 unfold nPw at hm
 have e2:((a*k:Nat):Int).natAbs=a*k:=Int.natAbs_natCast _
 simp(disch:=omega)only[go_sem,seval,wqq,ho,hm,e2]
theorem zeP (j:Nat):tlen (2^j)≤j+1:=by
 rw[zaQ]
 have h1:2^j<2^(j+1):=Nat.pow_lt_pow_right (by decide) (by omega)
 exact Nat.lt_of_lt_of_le h1 (Nat.pow_le_pow_left (by decide) _)
def two (i:Nat):Int:=((2^i:Nat):Int)
theorem zcc (j:Nat):(two j).natAbs=2^j:=Int.natAbs_natCast _
theorem ziN (i j:Nat) (hi:i<10000000) (hj:j<10000000):pf E0 118 [nP (two i),nP (two j)]=some (nP (two (i+j))):=by
 have h1:=zeP i
 have h2:=zeP j
 rw[zci _ _ (by rw[zcc];omega) (by rw[zcc];omega)]
 congr 2
 unfold two
 rw[Nat.pow_add,Int.natCast_mul]
theorem zeD (K:Nat) (hK:K≤16384):pf E0 128 [(PV.i .i64 ((K:Nat):Int))]=some (nP (two K)):=by
 refine zaa (xf:=zwx) rfl (by simp[zwx]) ?_
 simp only[zwx]
 have o1:pf E0 114 [.i .i64 1]=some (nP (two 0)):=zcB 1 (by unfold Fits64;omega)
 have o2:pf E0 114 [.i .i64 2]=some (nP (two 1)):=zcB 2 (by unfold Fits64;omega)
 simp(disch:=omega)only[go_sem,seval,wqq,o1,o2]
 refine zan zxq.eq_1 (fun(k:Nat) fr M=>fr 0=(PV.i .i64 ((k:Nat):Int))∧fr 2=.p 0 0∧fr 3=.p 1 0∧fr 4=.p 2 0∧∃i j e1 e2,i+j*k=K∧0<j∧(k=0∨j≤K)∧j≤40000 ∧
  M=[some ⟨[.b false,.nl],true,0⟩,some ⟨(nP (two i)).cells,true,e1⟩,some ⟨(nP (two j)).cells,true,e2⟩]) id ?_ K ⟨by simp only[go_sem,seval],by simp only[go_sem,seval],by simp only[go_sem,seval],by simp only[go_sem,seval],0,1,1,1,by omega,by omega,by omega,by omega,rfl⟩
 rintro k fr M ⟨h0,h2,h3,h4,i,j,e1,e2,hk,hj0,hj,hj2,rfl⟩ ih
 by_cases hk0:k=0
 ·subst hk0
  obtain rfl:i=K:=by omega
  simp(disch:=omega)only[go_sem,seval,wqq,h0,h2,h3,h4,Int.natCast_zero,Int.lt_irrefl,gt_iff_lt]
 ·have q0:((k:Int)>0)=True:=by simp;omega
  have tm:(k:Int).tmod 2=((k%2:Nat):Int):=zcd _ 2
  have td:(k:Int).tdiv 2=((k/2:Nat):Int):=zbn _ 2
  have hjk:j≤j*k:=Nat.le_mul_of_pos_right _ (by omega)
  have hkk:k≤j*k:=Nat.le_mul_of_pos_left _ hj0
  have hdd:k/2≤16384:=by omega
  have hk2:j*k=2*j*(k/2)+j*(k%2):=by
   have:=Nat.div_add_mod k 2
   generalize k/2=u at *
   generalize k%2=r at *
   subst this
   grind
  have hj3:k/2=0∨2*j≤K:=by
   rcases Nat.eq_zero_or_pos (k/2) with q|q
   ·exact .inl q
   ·have:=Nat.le_mul_of_pos_right (2*j) q
    exact .inr (by omega)
  have m2:=ziN j j (by omega) (by omega)
  rw[←Nat.two_mul] at m2
  by_cases hr:k%2=1
  ·have m1:=ziN i j (by omega) (by omega)
   rw[hr] at tm hk2
   simp(disch:=omega)only[go_sem,seval,wqq,h0,h2,h3,h4,q0,tm,td,m1,m2,Int.natCast_one]
   exact ih (k/2) _ _ (by simp only[id];omega) ⟨by simp only[go_sem,seval],by simp only[go_sem,seval,h2],by simp only[go_sem,seval,h3],by simp only[go_sem,seval,h4],i+j,2*j,_,_,by omega,by omega,hj3,by omega,rfl⟩
  ·have hr0:k%2=0:=by omega
   rw[hr0] at tm hk2
   simp(disch:=omega)only[go_sem,seval,wqq,h0,h2,h3,h4,q0,tm,td,m2,Int.natCast_zero]
   exact ih (k/2) _ _ (by simp only[id];omega) ⟨by simp only[go_sem,seval],by simp only[go_sem,seval,h2],by simp only[go_sem,seval,h3],by simp only[go_sem,seval,h4],i,2*j,_,_,by omega,by omega,hj3,by omega,rfl⟩
end Go.Eng
namespace Go.Eng
def aro (n m:Int):Int:=(if n<0 then-(n+1) else n)%m
theorem zcJ (n:Int) {m:Int} (h:1≤m):0≤aro n m:=Int.emod_nonneg _ (by omega)
theorem zhn (n:Int) {m:Int} (h:1≤m):aro n m<m:=Int.emod_lt_of_pos _ (by omega)
def ints (xs:List Int):PV:=.lst (xs.map fun n=>.i .i64 n)
@[go_sem] theorem znU (xs:List Int):lenP (ints xs)=some (.i .i64 (xs.length:Int)):=by simp[ints,lenP]
theorem ze7 {xs:List Int} {j:Nat} {n:Int} (h:xs[j]?=some n):idxP 1 (ints xs) (some j)=some (.fp [.i .i64 n]):=by
 rw[ints,zer]
 simp[h];rfl
def pick (xs:List Int) (i m:Int):Int:=if i<0∨(xs.length:Int)≤i then 0 else aro (xs.getD i.toNat 0) m
theorem zdB (xs:List Int) (i:Int) {m:Int} (h:1≤m):0≤pick xs i m:=by
 unfold pick;split
 ·omega
 ·exact zcJ _ h
theorem ziT (xs:List Int) (i:Int) {m:Int} (h:1≤m):pick xs i m<m:=by
 unfold pick;split
 ·omega
 ·exact zhn _ h
def Ints (xs:List Int):Prop:=xs.length≤9223372036854775807∧∀n∈xs,Fits64 n
end Go.Eng
namespace Go.Eng
@[go_sem] theorem zqo (M:PM) (d:Nat) (xs:List Int):fz M (d+1) (ints xs)=some (ints xs,[]):=_root_.id rfl
theorem za2 {M:PM} {j:Nat} {b:PB} (h:PM.blk M j=some b) (c:Option PB):PM.blk (M++[c]) j=some b:=by
 have:=zbZ h
 rw[zaz] at h ⊢
 rw[List.getElem?_append_left this];exact h
theorem zjf (a b:Int):tlen (a+b).natAbs≤max (tlen a.natAbs) (tlen b.natAbs)+1 :=
 Nat.le_trans (zat (Int.natAbs_add_le a b)) (zkH _ _)
theorem zbl (a b:Int):tlen (a*b).natAbs≤tlen a.natAbs+tlen b.natAbs:=by
 rw[Int.natAbs_mul,zaQ,Nat.pow_add]
 exact Nat.mul_lt_mul'' (zaj _) (zaj _)
theorem zoU {z:Int} (h:z.natAbs<10000):tlen z.natAbs≤1:=zad (by rw[Nat.pow_one];exact h)
def numT (k:Nat):Int:=two (32*(k%7)+k/7%5*8)*(((k/35%9:Nat):Int)-4)+(((k/315%5:Nat):Int)-2)
def numS (xs:List Int) (at_:Int):Nat→Int
 | 0=>0
 | i+1=>numS xs at_ i+numT (pick xs (at_+1+i) 1000000).toNat
end Go.Eng
namespace Go.Eng
noncomputable def dgi (v:Nat) (z:Int):Nat:=if z<0 then 0 else tdg v z.toNat
theorem zkQ (v:Nat) (z:Int):dgi v z<10000:=by unfold dgi;split;omega;exact zc4 _ _
theorem zgy {v:Nat} {z:Int} (hz:Fits64 z) (hv:tlen v<100000000):pf E0 159 [T v,.i .i64 z]=some (PV.i .i64 ((dgi v z:Nat):Int)):=by
 refine zaa (xf:=zwl) rfl (by simp[zwl]) ?_
 simp only[zwl]
 unfold Fits64 at hz
 unfold dgi
 by_cases h:z<0
 ·rw[if_pos h]
  simp(disch:=omega)only[go_sem,seval,wqq,h,Int.natCast_zero]
 ·rw[if_neg h]
  obtain⟨i,rfl⟩:∃i:Nat,z=i:=⟨z.toNat,by omega⟩
  rw[Int.toNat_natCast]
  by_cases h':tlen v≤i
  ·have q1:((i:Int)≥(tlen v:Int))=True:=by simp;omega
   rw[zcT (zaj v) h']
   simp(disch:=omega)only[go_sem,seval,wqq,h,q1,Int.natCast_zero]
  ·have q1:((i:Int)≥(tlen v:Int))=False:=by simp;omega
   have e:T v=Tw (tlen v) v:=rfl
   simp(disch:=omega)only[go_sem,seval,wqq,h,q1,e,zbK]
theorem zk3 {b k:Nat} (hk:0<k) (hb:b<10000^k):10000*tdg b (k-1)+dgi b ((k:Int)-2)=10000*b/10000^(k-1):=by
 obtain⟨j,rfl⟩:∃j,k=j+1:=⟨k-1,by omega⟩
 have e0:tdg b j=b/10000^j:=by
  rw[zak,Nat.mod_eq_of_lt]
  rw[Nat.pow_succ] at hb
  exact Nat.div_lt_of_lt_mul hb
 have e1:j+1-1=j:=by omega
 rw[e1]
 cases j with
 | zero =>
  have:dgi b (((0+1:Nat):Int)-2)=0:=by unfold dgi;rw[if_pos (by omega)]
  rw[this,e0];simp
 | succ j =>
  have e2:dgi b (((j+1+1:Nat):Int)-2)=tdg b j:=by
   unfold dgi
   rw[if_neg (by omega)]
   congr 1;omega
  rw[e2,e0,Nat.pow_succ,←Nat.div_div_eq_div_mul,zak,Nat.mul_comm (10000^j) 10000,Nat.mul_div_mul_left _ _ (by decide:0<10000)]
  omega
theorem zo1 {R k:Nat} (hk:0<k) (hR:R<10000^(k+1)):10000*(10000*tdg R k+tdg R (k-1))+dgi R ((k:Int)-2)=10000*R/10000^(k-1):=by
 obtain⟨j,rfl⟩:∃j,k=j+1:=⟨k-1,by omega⟩
 have e0:10000*tdg R (j+1)+tdg R j=R/10000^j:=by
  have h1:tdg R (j+1)=R/10000^j/10000:=by
   rw[zak,Nat.mod_eq_of_lt,zbo]
   rw[Nat.pow_succ] at hR
   exact Nat.div_lt_of_lt_mul hR
  rw[h1,zak];omega
 have e1:j+1-1=j:=by omega
 rw[e1,e0]
 cases j with
 | zero =>
  have:dgi R (((0+1:Nat):Int)-2)=0:=by unfold dgi;rw[if_pos (by omega)]
  rw[this];simp
 | succ j =>
  have e2:dgi R (((j+1+1:Nat):Int)-2)=tdg R j:=by
   unfold dgi
   rw[if_neg (by omega)]
   congr 1;omega
  rw[e2,Nat.pow_succ,←Nat.div_div_eq_div_mul,zak,Nat.mul_comm (10000^j) 10000,Nat.mul_div_mul_left _ _ (by decide:0<10000)]
  omega
theorem est {R b p:Nat} (hp:0<p) (hb:p≤b):10000*R/p/(10000*b/p+1)≤R/b∧R/b≤10000*R/p/(10000*b/p):=by
 have hb0:0<b:=Nat.lt_of_lt_of_le hp hb
 have u1:=Nat.div_mul_le_self (10000*R) p
 have u2:=Nat.lt_div_mul_add hp (a:=10000*R)
 have l1:=Nat.div_mul_le_self (10000*b) p
 have l2:=Nat.lt_div_mul_add hp (a:=10000*b)
 have l3:0<10000*b/p:=Nat.div_pos (by omega) hp
 generalize 10000*R/p=U at *
 generalize 10000*b/p=L at *
 constructor
 ·rw[Nat.le_div_iff_mul_le hb0]
  have h1:=Nat.div_mul_le_self U (L+1)
  generalize U/(L+1)=l at *
  have h2:l*(L+1)*p≤U*p:=Nat.mul_le_mul_right _ h1
  have h3:l*(10000*b)≤l*(L*p+p):=Nat.mul_le_mul_left _ (by omega)
  have h4:l*(L*p+p)=l*(L+1)*p:=by grind
  have h5:l*(10000*b)=10000*(l*b):=by grind
  omega
 ·rw[Nat.le_div_iff_mul_le l3]
  have h1:=Nat.div_mul_le_self R b
  generalize R/b=q at *
  have h2:q*(L*p)≤q*(10000*b):=Nat.mul_le_mul_left _ l1
  have h5:q*(10000*b)=10000*(q*b):=by grind
  have h6:q*(L*p)=q*L*p:=by grind
  have h7:q*L*p<(U+1)*p:=by rw[Nat.add_mul];omega
  have:=Nat.lt_of_mul_lt_mul_right h7
  omega
theorem zmv {R b:Nat} (hb:b≠0) (hR:R<10000*b) (lb:tlen b<10000000) :
  ∃lo hi:Nat,pf E0 148 [T R,T b]=some (.tu [(PV.i .i64 ((lo:Nat):Int)),(PV.i .i64 ((hi:Nat):Int))])∧lo≤R/b∧R/b≤hi∧hi≤9999∧lo≤hi:=by
 have hk:=zaR hb
 have hb1:=zaj b
 have hR1:R<10000^(tlen b+1):=by rw[Nat.pow_succ];omega
 have lR:tlen R≤tlen b+1:=zad hR1
 by_cases hlt:tlen R<tlen b
 ·refine⟨0,0,?_,Nat.zero_le _,?_,by omega,by omega⟩
  ·refine zaa (xf:=zvJ) rfl (by simp[zvJ]) ?_
   simp only[zvJ]
   have q1:((tlen R:Int)<(tlen b:Int))=True:=by simp;omega
   simp(disch:=omega)only[go_sem,seval,wqq,q1,Int.natCast_zero]
  ·have:R<b:=by
    rcases Nat.lt_or_ge R b with q|q
    ·exact q
    ·have:=zat q;omega
   exact Nat.le_of_eq (Nat.div_eq_of_lt this)
 ·have hpb:10000^(tlen b-1)≤b:=by
   rcases Nat.lt_or_ge b (10000^(tlen b-1)) with q|q
   ·have:=zad q;omega
   ·exact q
  obtain⟨m1,m2⟩:=est (R:=R) (zdj (tlen b-1)) hpb
  rw[←zk3 hk hb1,←zo1 hk hR1] at m1 m2
  have hq:R/b<10000:=Nat.div_lt_of_lt_mul (by omega)
  have hL:0<10000*tdg b (tlen b-1)+dgi b ((tlen b:Int)-2):=by
   rw[zk3 hk hb1]
   exact Nat.div_pos (by omega) (zdj _)
  have dR:∀z,Fits64 z→pf E0 159 [T R,.i .i64 z]=some (PV.i .i64 ((dgi R z:Nat):Int)):=fun z hz=>zgy hz (by omega)
  have db:∀z,Fits64 z→pf E0 159 [T b,.i .i64 z]=some (PV.i .i64 ((dgi b z:Nat):Int)):=fun z hz=>zgy hz (by omega)
  have e1:dgi R (tlen b:Int)=tdg R (tlen b):=by unfold dgi;rw[if_neg (by omega),Int.toNat_natCast]
  have e2:dgi R ((tlen b:Int)-1)=tdg R (tlen b-1):=by unfold dgi;rw[if_neg (by omega)];congr 1;omega
  have e3:dgi b ((tlen b:Int)-1)=tdg b (tlen b-1):=by unfold dgi;rw[if_neg (by omega)];congr 1;omega
  have r1:=dR (tlen b:Int) (by unfold Fits64;omega)
  have r2:=dR ((tlen b:Int)-1) (by unfold Fits64;omega)
  have r3:=dR ((tlen b:Int)-2) (by unfold Fits64;omega)
  have r4:=db ((tlen b:Int)-1) (by unfold Fits64;omega)
  have r5:=db ((tlen b:Int)-2) (by unfold Fits64;omega)
  rw[e1] at r1
  rw[e2] at r2
  rw[e3] at r4
  have t1:=zc4 R (tlen b)
  have t2:=zc4 R (tlen b-1)
  have t3:=zkQ R ((tlen b:Int)-2)
  have t4:=zc4 b (tlen b-1)
  have t5:=zkQ b ((tlen b:Int)-2)
  generalize tdg R (tlen b)=x1 at *
  generalize tdg R (tlen b-1)=x2 at *
  generalize dgi R ((tlen b:Int)-2)=x3 at *
  generalize tdg b (tlen b-1)=y1 at *
  generalize dgi b ((tlen b:Int)-2)=y2 at *
  have hU:10000*(10000*(x1:Int)+(x2:Int))+(x3:Int)=((10000*(10000*x1+x2)+x3:Nat):Int):=by omega
  have hLc:10000*(y1:Int)+(y2:Int)=((10000*y1+y2:Nat):Int):=by omega
  have uB:10000*(10000*x1+x2)+x3<1000000000000:=by omega
  have lB:10000*y1+y2<100000000:=by omega
  generalize 10000*(10000*x1+x2)+x3=U at *
  generalize 10000*y1+y2=L at *
  have f1:(U:Int).tdiv ((L:Int)+1)=((U/(L+1):Nat):Int):=zbn U (L+1)
  have f2:(U:Int).tdiv (L:Int)=((U/L:Nat):Int):=zbn U L
  have b1:U/(L+1)≤U:=Nat.div_le_self _ _
  have b2:U/L≤U:=Nat.div_le_self _ _
  generalize U/(L+1)=lo at *
  generalize U/L=hi at *
  refine⟨min 9999 lo,min 9999 hi,?_,by omega,by omega,by omega,by omega⟩
  have g1:(if (lo:Int)<9999 then (lo:Int) else 9999)=((min 9999 lo:Nat):Int):=by split<;>omega
  have g2:(if (hi:Int)<9999 then (hi:Int) else 9999)=((min 9999 hi:Nat):Int):=by split<;>omega
  have z1:((L:Int)=0)=False:=by simp;omega
  have z2:((L:Int)+1=0)=False:=by simp;omega
  refine zaa (xf:=zvJ) rfl (by simp[zvJ]) ?_
  simp only[zvJ]
  have q1:((tlen R:Int)<(tlen b:Int))=False:=by simp;omega
  have q2:((tlen b:Int)=0)=False:=by simp;omega
  simp(disch:=omega)only[go_sem,seval,wqq,q1,q2,r1,r2,r3,r4,r5,hU,hLc,f1,f2,g1,g2,z1,z2]
end Go.Eng
namespace Go.Eng
theorem zhJ (a w i:Nat) (hw0:0<w):(a/10000^(i+1)%w*10000+tdg a i)%w=a/10000^i%w∧(a/10000^(i+1)%w*10000+tdg a i)/w=tdg (a/w) i:=by
 have e:a/10000^i=a/10000^(i+1)*10000+tdg a i:=by
  rw[zbo,zak];omega
 have e2:tdg (a/w) i=a/10000^i/w%10000:=by
  rw[zak,Nat.div_div_eq_div_mul,Nat.div_div_eq_div_mul,Nat.mul_comm]
 rw[e2,e]
 have hd:=zc4 a i
 generalize tdg a i=d at *
 generalize a/10000^(i+1)=z at *
 have h1:=Nat.mod_add_div z w
 generalize hr:z%w=r at *
 have hrw:r<w:=by rw[←hr];exact Nat.mod_lt _ hw0
 generalize z/w=q at *
 subst h1
 have e3:(r+w*q)*10000+d=r*10000+d+w*(q*10000):=by grind
 rw[e3,Nat.add_mul_mod_self_left,Nat.add_mul_div_left _ _ hw0]
 have:(r*10000+d)/w<10000:=by
  rw[Nat.div_lt_iff_lt_mul hw0]
  have:r*10000+10000≤w*10000:=by rw[←Nat.succ_mul];exact Nat.mul_le_mul_right _ hrw
  omega
 exact⟨rfl,by rw[Nat.add_mul_mod_self_right,Nat.mod_eq_of_lt this]⟩
theorem znq {x y:Nat}:(cmpI (x:Int) (y:Int)≤0)=(x≤y):=by
 unfold cmpI
 apply propext
 constructor
 ·intro h
  split at h
  ·omega
  ·split at h<;>omega
 ·intro h
  split
  ·omega
  ·split<;>omega
theorem zjt {F:PFin} {ks:List KI} {R b:Nat} (hb:b≠0) (lb:tlen b<10000000) (lR:tlen R<100000000) {lo hi:Nat} {fr:PFr} {M:PM} {A0 A6 A10:PV} (h0:fr 0=A0) (h1:fr 1=T b) (h6:fr 6=A6) (h9:fr 9=T R) (h10:fr 10=A10) (h12:fr 12=(PV.i .i64 ((lo:Nat):Int))) (h13:fr 13=(PV.i .i64 ((hi:Nat):Int)))
  (hlo:lo≤R/b) (hhi:R/b≤hi) (hh:hi≤9999)
  (cont:∀fr',fr' 0=A0→fr' 1=T b→fr' 6=A6→fr' 9=T R→fr' 10=A10→fr' 12=(PV.i .i64 ((R/b:Nat):Int))→UK E0 F (.exit 2) ks fr' M):WK E0 F (.loop zwG) ks fr M:=by
 refine zan zwG.eq_1 (fun(p:Nat×Nat) fr M'=>p.1≤R/b∧R/b≤p.2∧p.2≤9999∧fr 0=A0∧fr 1=T b∧fr 6=A6∧fr 9=T R∧fr 10=A10∧fr 12=(PV.i .i64 ((p.1:Nat):Int))∧fr 13=(PV.i .i64 ((p.2:Nat):Int))∧M'=M) (fun p=>p.2-p.1) ?_ (lo,hi) ⟨hlo,hhi,hh,h0,h1,h6,h9,h10,h12,h13,rfl⟩
 rintro⟨lo,hi⟩ fr M' ⟨hlo,hhi,hh,h0,h1,h6,h9,h10,h12,h13,rfl⟩ ih
 simp only at hlo hhi hh h12 h13
 by_cases hlt:lo<hi
 ·have q1:((lo:Int)<(hi:Int))=True:=by simp;omega
  have e1:(lo:Int)+(hi:Int)+1=((lo+hi+1:Nat):Int):=by omega
  have e2:((lo+hi+1:Nat):Int).tdiv 2=(((lo+hi+1)/2:Nat):Int):=zbn _ 2
  have m1:lo<(lo+hi+1)/2:=by omega
  have m2:(lo+hi+1)/2≤hi:=by omega
  generalize (lo+hi+1)/2=mid at *
  have hs:=zgE (k:=mid) (zaj b) (by omega) (by omega)
  have lbm:tlen (b*mid)≤tlen b+1:=zad (by rw[Nat.pow_succ];exact Nat.mul_lt_mul'' (zaj b) (by omega))
  have hcm:=zce (b*mid) R (by omega) (by omega)
  have hcl:(cmpI ((b*mid:Nat):Int) (R:Int)≤0)=(mid≤R/b):=by
   rw[znq,Nat.le_div_iff_mul_le (Nat.pos_of_ne_zero hb),Nat.mul_comm]
  by_cases hm:mid≤R/b
  ·have q2:(cmpI ((b*mid:Nat):Int) (R:Int)≤0)=True:=by rw[hcl];simp[hm]
   simp(disch:=omega)only[go_sem,seval,wqq,h0,h1,h6,h9,h10,h12,h13,q1,e1,e2,hs,hcm,q2]
   exact ih (mid,hi) _ _ (by simp only;omega) ⟨hm,hhi,hh,by simp only[go_sem,seval,h0],by simp only[go_sem,seval,h1],by simp only[go_sem,seval,h6],by simp only[go_sem,seval,h9],by simp only[go_sem,seval,h10],by simp only[go_sem,seval],by simp only[go_sem,seval,h13],rfl⟩
  ·have q2:(cmpI ((b*mid:Nat):Int) (R:Int)≤0)=False:=by rw[hcl];simp[hm]
   simp(disch:=omega)only[go_sem,seval,wqq,h0,h1,h6,h9,h10,h12,h13,q1,e1,e2,hs,hcm,q2]
   exact ih (lo,mid-1) _ _ (by simp only;omega) ⟨hlo,by simp only;omega,by simp only;omega,by simp only[go_sem,seval,h0],by simp only[go_sem,seval,h1],by simp only[go_sem,seval,h6],by simp only[go_sem,seval,h9],by simp only[go_sem,seval,h10],by simp only[go_sem,seval,h12],by simp only[go_sem,seval];congr 1;omega,rfl⟩
 ·have q1:((lo:Int)<(hi:Int))=False:=by simp;omega
  have:lo=R/b:=by omega
  simp(disch:=omega)only[go_sem,seval,wqq,h12,h13,q1]
  exact cont _ (by simp only[go_sem,seval,h0]) (by simp only[go_sem,seval,h1]) (by simp only[go_sem,seval,h6]) (by simp only[go_sem,seval,h9]) (by simp only[go_sem,seval,h10]) (by simp only[go_sem,seval,h12,this])
theorem zg2 {M:PM} {r d:Nat} (hd:d<10000) (hr:tlen r<1000000000) :
  ∃v' M',appP (M++[some (⟨[(PV.i .i64 ((d:Nat):Int))],true,0⟩:PB)]) 1 8 (.sl M.length 0 1 1 1) (T r)=some (v',M')∧Grows M' v' (tab (tlen r+1) fun k=>(PV.i .i64 ((tdg (r*10000+d) k:Nat):Int)))∧(∀j b,PM.blk M j=some b→PM.blk M' j=some b∧NotIn v' j):=by
 have hsrc:srcP (M++[some (⟨[(PV.i .i64 ((d:Nat):Int))],true,0⟩:PB)]) 1 (T r)=some (tlen r,tab (tlen r) fun k=>(PV.i .i64 ((tdg r k:Nat):Int))):=by
  show (if ez 1 _=true then some (_,flat _) else none)=_
  rw[zhR,if_pos rfl,zgd,zaX]
 have hcons:(PV.i .i64 ((d:Nat):Int))::(tab (tlen r) fun k=>(PV.i .i64 ((tdg r k:Nat):Int)))=tab (tlen r+1) fun k=>(PV.i .i64 ((tdg (r*10000+d) k:Nat):Int)):=by
  apply List.ext_getElem?
  intro k
  cases k with
  | zero =>
   rw[zaL (by omega),zak]
   simp;omega
  | succ k =>
   rw[List.getElem?_cons_succ,zaW,zaW]
   have:tdg (r*10000+d) (k+1)=tdg r k:=by
    rw[zkE];congr 1;omega
   by_cases h:k<tlen r
   ·rw[if_pos h,if_pos (by omega),this]
   ·rw[if_neg h,if_neg (by omega)]
 by_cases h0:tlen r=0
 ·refine⟨.sl M.length 0 1 1 1,M++[some (⟨[(PV.i .i64 ((d:Nat):Int))],true,0⟩:PB)],?_,.inr ⟨M.length,0,?_,?_⟩,fun j b hj=>⟨za2 hj _,?_⟩⟩
  ·simp only[appP,hsrc];simp[h0]
  ·rw[h0];rfl
  ·rw[zaU,←hcons,h0];rfl
  ·have:=zbZ hj;simp[NotIn];omega
 ·refine⟨.sl (M.length+1) 0 (1+tlen r) (1+tlen r) 1,(M++[some (⟨[(PV.i .i64 ((d:Nat):Int))],true,0⟩:PB)]).set M.length none++[some (⟨tab (tlen r+1) fun k=>(PV.i .i64 ((tdg (r*10000+d) k:Nat):Int)),true,0⟩:PB)],?_,.inr ⟨M.length+1,0,?_,?_⟩,fun j b hj=>⟨?_,?_⟩⟩
  ·simp only[appP,hsrc,zaU]
   rw[←hcons]
   simp[h0]
   omega
  ·rw[zaX,Nat.add_comm 1 (tlen r)]
  ·have:=zaU ((M++[some (⟨[(PV.i .i64 ((d:Nat):Int))],true,0⟩:PB)]).set M.length none) (some (⟨tab (tlen r+1) fun k=>(PV.i .i64 ((tdg (r*10000+d) k:Nat):Int)),true,0⟩:PB))
   simpa using this
  ·have hlt:=zbZ hj
   rw[zbR]
   exact za2 (za2 hj _) _
  ·have:=zbZ hj;simp[NotIn];omega
theorem zkw (n v f:Nat) (h:f≤n):slP 1 (Tw n v) (some (.i .i64 (f:Int))) none none=some (Tw (n-f) (v/10000^f)):=by
 have hz:ez 1 (tab n fun k=>(PV.i .i64 ((tdg v k:Nat):Int)))=true:=zhR n .i64 _
 have hd:∀k,tdg v (f+k)=tdg (v/10000^f) k:=fun k=>by rw[zak,zak,Nat.div_div_eq_div_mul,Nat.pow_add]
 simp only[slP,Tw,Option.isSome_none,Bool.false_eq_true,if_false,optP,zaI,hz,zaX]
 rw[if_pos ⟨h,Nat.le_refl _,trivial⟩,zeO _ _ _ (Nat.le_refl _),zkC]
 simp only[hd]
theorem zjN {a b:Nat} (hb:b≠0):a/10000^(tlen a+1-tlen b)<b:=by
 have hk:=zaR hb
 have hpb:10000^(tlen b-1)≤b:=by
  rcases Nat.lt_or_ge b (10000^(tlen b-1)) with q|q
  ·have:=zad q;omega
  ·exact q
 have h1:a<10000^(tlen a+1-tlen b)*10000^(tlen b-1):=by
  rw[←Nat.pow_add]
  exact Nat.lt_of_lt_of_le (zaj a) (Nat.pow_le_pow_right (by decide) (by omega))
 exact Nat.lt_of_lt_of_le (Nat.div_lt_of_lt_mul h1) hpb
theorem zhe {a b:Nat} (ha:a≠0) (hb:b≠0) (la:tlen a<1000000) (lb:tlen b<1000000):pf E0 136 [T a,T b]=some (.tu [Tw (tlen a) (a/b),T (a%b)]):=by
 refine zaa (xf:=zvx) rfl (by simp[zvx]) ?_
 simp only[zvx]
 have hn:=zaR ha
 have hk:=zaR hb
 have hfl:=zjN (a:=a) hb
 have hf:(if ((if (tlen a:Int)-(tlen b:Int)+1<(tlen a:Int) then (tlen a:Int)-(tlen b:Int)+1 else (tlen a:Int)))>0 then (if (tlen a:Int)-(tlen b:Int)+1<(tlen a:Int) then (tlen a:Int)-(tlen b:Int)+1 else (tlen a:Int)) else 0)=((tlen a+1-tlen b:Nat):Int):=by
  split<;>split<;>omega
 have hfn:tlen a+1-tlen b≤tlen a:=by omega
 have hbp:0<b:=Nat.pos_of_ne_zero hb
 generalize tlen a+1-tlen b=f at *
 have eT:T a=Tw (tlen a) a:=rfl
 have hs:=zkw (tlen a) a f hfn
 rw[←eT] at hs
 have hlt2:a/10000^f<10000^(tlen a-f):=by
  apply Nat.div_lt_of_lt_mul
  rw[←Nat.pow_add,show f+(tlen a-f)=tlen a by omega];exact zaj a
 have hno:=zaq false (tlen a-f) (a/10000^f) hlt2 (by omega)
 have e1:∀v:Nat,sgn false v=(v:Int):=fun v=>rfl
 rw[e1] at hno
 have cN:∀v:Nat,(nP (v:Int)).cells=[.b false,T v]:=fun v=>by
  show [PV.b (decide ((v:Int)<0)),T (v:Int).natAbs]=_
  rw[Int.natAbs_natCast]
  have:decide ((v:Int)<0)=false:=by simp
  rw[this]
 have lq:tlen (a/b)≤tlen a:=zat (Nat.div_le_self _ _)
 simp(disch:=omega)only[go_sem,seval,wqq,zch,hf,hs,hno,cN]
 refine zan zwH.eq_1 (fun(i:Nat) fr M=>i≤f∧fr 0=T a∧fr 1=T b∧fr 6=.sl 0 0 (tlen a) (tlen a) 1∧fr 9=T (a/10000^i%b)∧fr 10=.i .i64 ((i:Int)-1) ∧
  ∃e,PM.blk M 0=some ⟨tab (tlen a) fun j=>(PV.i .i64 ((if i≤j then tdg (a/b) j else 0:Nat):Int)),true,e⟩) id ?_ f ⟨Nat.le_refl _,by simp only[go_sem,seval],by simp only[go_sem,seval],by simp only[go_sem,seval],by simp only[go_sem,seval];rw[Nat.mod_eq_of_lt hfl],by simp only[go_sem,seval],0,?_⟩
 ·rintro i fr M ⟨hi,h0,h1,h6,h9,h10,e,hb0⟩ ih
  by_cases hi0:i=0
  ·subst hi0
   rw[Nat.pow_zero,Nat.div_one] at h9
   simp only[Nat.zero_le,if_true] at hb0
   have hz:(tlen a=0)=False:=by simp;omega
   simp(disch:=omega)only[go_sem,seval,wqq,h0,h1,h6,h9,h10,Int.natCast_zero,Int.zero_sub,Int.reduceNeg,Int.reduceLE,ge_iff_le,hb0,hz]
  ·obtain⟨m,rfl⟩:∃m,i=m+1:=⟨i-1,by omega⟩
   have q1:(((m+1:Nat):Int)-1≥0)=True:=by simp
   have q2:(((m+1:Nat):Int)-1)=(m:Int):=by omega
   obtain⟨s1,s2⟩:=zhJ a b m hbp
   have hr:a/10000^(m+1)%b<b:=Nat.mod_lt _ hbp
   have lr:tlen (a/10000^(m+1)%b)≤tlen b:=zat (Nat.le_of_lt hr)
   generalize a/10000^(m+1)%b=r at *
   have hd:=zc4 a m
   obtain⟨v',M1,he,hg,hk1⟩:=zg2 (M:=M) (r:=r) (d:=tdg a m) hd (by omega)
   obtain⟨ns,f1,f2⟩:=zge hg
   obtain⟨k1,k2⟩:=hk1 0 _ hb0
   have hb2:=f2 0 _ k1 k2
   have hR:r*10000+tdg a m<10000*b:=by omega
   have hRl:r*10000+tdg a m<10000^(tlen r+1):=by
    have:=zaj r
    rw[Nat.pow_succ];omega
   have lR:=zad hRl
   have hno:=zaq false (tlen r+1) (r*10000+tdg a m) hRl (by omega)
   rw[e1] at hno
   obtain⟨lo,hi',hdg,d1,d2,d3,d4⟩:=zmv hb hR (by omega)
   generalize r*10000+tdg a m=R at *
   simp(disch:=omega)only[go_sem,seval,wqq,h0,h1,h6,h9,h10,q1,q2,eT,zbK,he,f1,hno,cN,zaU,zbR,hdg]
   refine zjt (R:=R) hb (by omega) (by omega) (A0:=T a) (A6:=.sl 0 0 (tlen a) (tlen a) 1) (A10:=.i .i64 (m:Int)) (by simp only[go_sem,seval,h0]) (by simp only[go_sem,seval,h1]) (by simp only[go_sem,seval,h6]) (by simp only[go_sem,seval]) (by simp only[go_sem,seval,h10,q2]) (by simp only[go_sem,seval]) (by simp only[go_sem,seval]) d1 d2 d3 fun fr' g0 g1 g6 g9 g10 g12=>?_
   have hq9:R/b<10000:=by omega
   have hsm:=zgE (k:=R/b) (zaj b) (by omega) hq9
   have hml:b*(R/b)≤R:=Nat.mul_div_le R b
   have lml:=zat hml
   have hmi:=zeB (a:=R) (b:=b*(R/b)) (s:=R%b) (n:=tlen R) (m:=tlen (b*(R/b))) (Nat.mod_add_div R b).symm (zaj R) (zaj _) (by omega) (by omega)
   have hno2:=zaq false (tlen R) (R%b) (Nat.lt_of_le_of_lt (Nat.mod_le R b) (zaj R)) (by omega)
   rw[e1] at hno2
   have eR:T R=Tw (tlen R) R:=rfl
   have hb3:∀c c2:Option PB,PM.blk (roM M1 ns++[c]++[c2]) 0=_:=fun c c2=>za2 (za2 hb2 c) c2
   have hb4:∀(c c2 z:Option PB),PM.blk (List.set (roM M1 ns++[c]++[c2]) 0 z) (List.length (roM M1 ns++[c]))=c2:=fun c c2 z=>by
    rw[zbH (by simp),zaU]
   have hma:m<tlen a:=by omega
   simp(disch:=omega)only[go_sem,seval,wqq,g0,g1,g6,g9,g10,g12,hsm,hmi,hno2,cN,zaU,zbR,hb3,hb4,hma,zar]
   refine ih m _ _ (by simp only[id];omega) ⟨by omega,by simp only[go_sem,seval,g0],by simp only[go_sem,seval,g1],by simp only[go_sem,seval,g6],by simp only[go_sem,seval];rw[s1],by simp only[go_sem,seval],e+1,?_⟩
   rw[zbG (by simp)]
   congr 2
   refine zae fun k hk=>?_
   by_cases hkm:k=m
   ·subst hkm
    rw[if_pos rfl,if_pos (Nat.le_refl _),s2]
   ·rw[if_neg hkm]
    congr 2
    by_cases h:m≤k
    ·rw[if_pos h,if_pos (by omega)]
    ·rw[if_neg h,if_neg (by omega)]
 ·simp only[go_sem,seval]
  rw[zb7]
  congr 2
  refine zae fun k hk=>?_
  by_cases h:f≤k
  ·rw[if_pos h,zak,Nat.div_div_eq_div_mul,Nat.mul_comm,←Nat.div_div_eq_div_mul,Nat.div_eq_of_lt]
   ·rfl
   ·exact Nat.lt_of_le_of_lt (Nat.div_le_div_left (Nat.pow_le_pow_right (by decide) h) (zdj f)) hfl
  ·rw[if_neg h];rfl
end Go.Eng
namespace Go.Eng
theorem zhd {b:Nat} (hb:b≠0) (lb:tlen b<1000000):pf E0 136 [T 0,T b]=some (.tu [Tw (tlen 0) (0/b),T (0%b)]):=by
 refine zaa (xf:=zvx) rfl (by simp[zvx]) ?_
 simp only[zvx]
 have hk:=zaR hb
 have hno:=zaq false 0 0 (by decide) (by omega)
 have z0:(Tw 0 0:PV)=.lst []:=rfl
 have zT:(T 0:PV)=.lst []:=by show Tw (tlen 0) 0=_;rw[zaM];rfl
 have s0:sgn false 0=0:=rfl
 have zN:(nP 0:PV).cells=[.b false,.lst []]:=by show [PV.b (decide ((0:Int)<0)),T 0]=_;rw[zT];rfl
 rw[z0,s0] at hno
 rw[Nat.zero_div,Nat.zero_mod,zaM,z0,zT]
 have hf:(if ((if-(tlen b:Int)+1<0 then-(tlen b:Int)+1 else (0:Int)))>0 then (if-(tlen b:Int)+1<0 then-(tlen b:Int)+1 else (0:Int)) else 0)=0:=by
  split<;>split<;>omega
 have hs:slP 1 (.lst []) (some (.i .i64 0)) none none=some (.lst []):=rfl
 simp(disch:=omega)only[go_sem,seval,wqq,List.length_nil,Int.natCast_zero,Int.add_zero,zcs,Int.reduceLE,Int.reduceToNat,zds,hf,hs,hno,zN,Int.zero_sub,Int.reduceNeg]
 refine zcW ?_
 simp only[zwH]
 simp(disch:=omega)only[go_sem,seval,wqq,Int.zero_sub,Int.reduceNeg,Int.reduceLE,ge_iff_le]
theorem ziG {a b:Nat} (hb:b≠0) (la:tlen a<1000000) (lb:tlen b<1000000):pf E0 136 [T a,T b]=some (.tu [Tw (tlen a) (a/b),T (a%b)]):=by
 by_cases ha:a=0
 ·subst ha;exact zhd hb lb
 ·exact zhe ha hb la lb
theorem zd5 {x y:Int} (hy:y≠0) (lx:tlen x.natAbs<100000) (ly:tlen y.natAbs<100000):pf E0 120 [nP x,nP y]=some (.tu [nP (x/y),nP (x%y)]):=by
 refine zaa (xf:=zw6) rfl (by simp[zw6]) ?_
 simp only[zw6]
 have hy0:y.natAbs≠0:=by omega
 have hd:=ziG (a:=x.natAbs) hy0 (by omega) (by omega)
 have lql:x.natAbs/y.natAbs<10000^tlen x.natAbs:=Nat.lt_of_le_of_lt (Nat.div_le_self _ _) (zaj _)
 have n1:pf E0 132 [.b (!(decide (x<0)==decide (y<0))),Tw (tlen x.natAbs) (x.natAbs/y.natAbs)]=_:=zaq (decide (x<0) != decide (y<0)) (tlen x.natAbs) (x.natAbs/y.natAbs) lql (by omega)
 have lrl:=Nat.mod_lt x.natAbs (Nat.pos_of_ne_zero hy0)
 have n2:=zaq false (tlen (x.natAbs%y.natAbs)) (x.natAbs%y.natAbs) (zaj _) (by have:=zat (Nat.le_of_lt lrl);omega)
 have dm:=Nat.div_add_mod x.natAbs y.natAbs
 have lq:=zad lql
 generalize x.natAbs/y.natAbs=q at *
 have lr:=zat (Nat.le_of_lt lrl)
 generalize x.natAbs%y.natAbs=r at *
 have lst1:PV.lst (group 1 1 [.i .i64 1])=Tw 1 1:=by
  rw[zcx _ _ (by rfl),Tw]
  have:tab 1 (fun k=>(PV.i .i64 ((tdg 1 k:Nat):Int)))=[(PV.i .i64 ((tdg 1 0:Nat):Int))]:=rfl
  rw[this,zak];rfl
 have one_lt:1<10000^1:=by decide
 by_cases hx:x<0
 ·by_cases hr:r=0
  ·subst hr
   have hf:=zb9 (q:=q) (r:=0) hy (by rw[if_pos hx];omega) (by omega)
   have s1:sgn (decide (x<0) != decide (y<0)) q=x/y:=hf.1
   have s2:sgn false 0=x%y:=hf.2
   rw[s1] at n1
   rw[s2] at n2
   simp only[hx,decide_true] at n1
   have hl:((tlen (x%y).natAbs:Int)>0)=False:=by rw[←s2];show ((tlen 0:Int)>0)=False;rw[zaM];simp
   simp(disch:=omega)only[go_sem,seval,wqq,hd,hx,n1,n2,hl]
   refine zbS ⟨.inr ⟨9,4,rfl,by simp only[go_sem,seval]⟩,trivial⟩ ?_
   simp(disch:=omega)only[go_sem,seval,wqq]
  ·have hf:=zb9 (q:=q+1) (r:=y.natAbs-r) hy (by rw[if_pos hx,Nat.mul_add];omega) (by omega)
   have hl:((tlen r:Int)>0)=True:=by have:=zaR hr;simp;omega
   have n3:pf E0 132 [.b (!(decide (x<0)==decide (y<0))),Tw 1 1]=_:=zaq (decide (x<0) != decide (y<0)) 1 1 one_lt (by omega)
   have hsum:sgn (decide (x<0) != decide (y<0)) q+sgn (decide (x<0) != decide (y<0)) 1=x/y:=by
    rw[←hf.1];unfold sgn;split<;>omega
   have hadd:=zgD (sgn (decide (x<0) != decide (y<0)) q) (sgn (decide (x<0) != decide (y<0)) 1) (by
    have:(sgn (decide (x<0) != decide (y<0)) q).natAbs=q:=by unfold sgn;split<;>omega
    rw[this];omega) (by
    have:(sgn (decide (x<0) != decide (y<0)) 1).natAbs=1:=by unfold sgn;split<;>omega
    rw[this];have:=zad one_lt;omega)
   rw[hsum] at hadd
   have hmi:=zeB (a:=y.natAbs) (b:=r) (s:=y.natAbs-r) (by omega) (zaj _) (zaj _) (by omega) (by omega)
   have n4:=zaq false (tlen y.natAbs) (y.natAbs-r) (Nat.lt_of_le_of_lt (Nat.sub_le _ _) (zaj _)) (by omega)
   have s2:sgn false (y.natAbs-r)=x%y:=hf.2
   rw[s2] at n4
   have s3:sgn false r=(r:Int):=rfl
   rw[s3] at n2
   have cN:(nP (r:Int)).cells=[.b false,T r]:=by
    show [PV.b (decide ((r:Int)<0)),T (r:Int).natAbs]=_
    rw[Int.natAbs_natCast]
    have:decide ((r:Int)<0)=false:=by simp
    rw[this]
   generalize sgn (decide (x<0) != decide (y<0)) q=Z at *
   generalize sgn (decide (x<0) != decide (y<0)) 1=O at *
   simp only[hx,decide_true] at n1 n3
   simp(disch:=omega)only[go_sem,seval,wqq,hd,hx,n1,n2,cN,hl,lst1,n3,hadd,hmi,n4]
   refine zbS ⟨.inr ⟨9,4,rfl,by simp only[go_sem,seval]⟩,trivial⟩ ?_
   simp(disch:=omega)only[go_sem,seval,wqq]
 ·have hf:=zb9 (q:=q) (r:=r) hy (by rw[if_neg hx];omega) (by omega)
  have s1:sgn (decide (x<0) != decide (y<0)) q=x/y:=hf.1
  have s2:sgn false r=x%y:=hf.2
  rw[s1] at n1
  rw[s2] at n2
  simp only[hx,decide_false] at n1
  simp(disch:=omega)only[go_sem,seval,wqq,hd,hx,n1,n2]
  refine zbS ⟨.inr ⟨9,4,rfl,by simp only[go_sem,seval]⟩,trivial⟩ ?_
  simp(disch:=omega)only[go_sem,seval,wqq]
end Go.Eng
namespace Go.Eng
theorem zuK (M:PM) (c c':Option PB):PM.blk (M++[c]++[c']) M.length=c:=by
 rw[List.append_assoc]
 unfold PM.blk
 rw[List.getElem?_append_right (Nat.le_refl _)]
 simp
theorem zuL (M:PM) (c c' d:Option PB):List.set (M++[c]++[c']) M.length d=M++[d]++[c']:=by
 rw[List.append_assoc,List.append_assoc];simp[List.set_append]
theorem ztZ (M:PM) (c c' d:Option PB):PM.blk (M++[d]++[c']) (List.length (M++[c]))=c':=by
 have h:=zaU (M++[d]) c'
 rw[show List.length (M++[c])=List.length (M++[d]) by simp];exact h
theorem zuM (M:PM) (c c' d z:Option PB):List.set (M++[d]++[c']) (List.length (M++[c])) z=M++[d]++[z]:=by
 rw[show List.length (M++[c])=List.length (M++[d]) by simp];exact zbR _ _ _
theorem zdX (a:Nat):nP (a:Int)=.ag [.b false,T a]:=by
 show PV.ag [PV.b (decide ((a:Int)<0)),T (a:Int).natAbs]=_
 rw[Int.natAbs_natCast]
 have:decide ((a:Int)<0)=false:=by simp
 rw[this]
theorem zlh (x y:Int) (lx:tlen x.natAbs<100000) (ly:tlen y.natAbs<100000):pf E0 125 [nP x,nP y]=some (nP (Nat.gcd x.natAbs y.natAbs:Nat)):=by
 refine zaa (xf:=zw3) rfl (by simp[zw3]) ?_
 simp only[zw3]
 have n1:=zaq false (tlen x.natAbs) x.natAbs (zaj _) (by omega)
 have n2:=zaq false (tlen y.natAbs) y.natAbs (zaj _) (by omega)
 have s0:∀v:Nat,sgn false v=(v:Int):=fun _=>rfl
 rw[s0,zdX] at n1 n2
 rw[zdX]
 simp(disch:=omega)only[go_sem,seval,wqq,n1,n2]
 refine zan zxE.eq_1 (fun(p:Nat×Nat) fr M=>Nat.gcd p.1 p.2=Nat.gcd x.natAbs y.natAbs∧tlen p.1<100000∧tlen p.2<100000∧fr 4=.p 2 0∧fr 5=.p 3 0∧fr 6=.p 4 0 ∧
  PM.blk M 2=some ⟨[.b false,.nl],true,0⟩∧∃e1 e2,PM.blk M 3=some ⟨[.b false,T p.1],true,e1⟩∧PM.blk M 4=some ⟨[.b false,T p.2],true,e2⟩) (fun p=>p.2) ?_ (x.natAbs,y.natAbs) ⟨rfl,lx,ly,by simp only[go_sem,seval],by simp only[go_sem,seval],by simp only[go_sem,seval],rfl,1,1,rfl,rfl⟩
 rintro⟨a,b⟩ fr M ⟨hg,la,lb,h4,h5,h6,hb2,e1,e2,hb3,hb4⟩ ih
 simp only at hg la lb hb3 hb4
 have l4:=zbZ hb4
 by_cases hb:b=0
 ·subst hb
  rw[Nat.gcd_zero_right] at hg
  subst hg
  have q1:((tlen 0:Int)>0)=False:=by rw[zaM];simp
  simp(disch:=omega)only[go_sem,seval,wqq,h4,h5,h6,hb2,hb3,hb4,q1,zbG]
 ·have q1:((tlen b:Int)>0)=True:=by have:=zaR hb;simp;omega
  have hd:=zd5 (x:=(a:Int)) (y:=(b:Int)) (by omega) (by rw[Int.natAbs_natCast];exact la) (by rw[Int.natAbs_natCast];exact lb)
  rw[←Int.natCast_ediv,←Int.natCast_emod,zdX,zdX,zdX,zdX] at hd
  have ml:=Nat.mod_lt a (Nat.pos_of_ne_zero hb)
  have lm:=zat (Nat.le_of_lt ml)
  have o3:∀c c':Option PB,PM.blk (M++[c]++[c']) 3=_:=fun c c'=>za2 (za2 hb3 c) c'
  have o4:∀c c':Option PB,PM.blk (M++[c]++[c']) 4=_:=fun c c'=>za2 (za2 hb4 c) c'
  have o2:∀c c':Option PB,PM.blk (M++[c]++[c']) 2=_:=fun c c'=>za2 (za2 hb2 c) c'
  have o5:∀c c' z d:Option PB,PM.blk (List.set (M++[d]++[c']) 3 z) (List.length (M++[c]))=c':=fun c c' z d=>by
   rw[zbH (by simp;omega),ztZ]
  have o6:∀c c' z:Option PB,PM.blk (List.set (M++[c]++[c']) 3 z) 4=_:=fun c c' z=>by
   exact(zbH (by decide)).trans (o4 c c')
  simp(disch:=omega)only[go_sem,seval,wqq,h4,h5,h6,hb2,hb3,hb4,q1,hd,zuK,zuL,ztZ,zuM,o3,o4,o5,o6]
  refine ih (b,a%b) _ _ ml ⟨by rw[←hg,Nat.gcd_comm b,←Nat.gcd_rec,Nat.gcd_comm],lb,by show tlen (a%b)<100000;omega,by simp only[go_sem,seval,h4],by simp only[go_sem,seval,h5],by simp only[go_sem,seval,h6],?_,e1+1,e2+1,?_,?_⟩
  ·exact(zbH (by decide)).trans ((zbH (by decide)).trans (o2 _ _))
  ·exact(zbH (by decide)).trans (zbG (by simp;omega))
  ·exact zbG (by simp;omega)
end Go.Eng
namespace Go.Eng
theorem zlF:∀d:Fin 10,slStrP [48,49,50,51,52,53,54,55,56,57] (some (.i .i64 (d.val:Int))) (some (.i .i64 ((d.val:Int)+1)))=some (.s [UInt8.ofNat (48+d.val)]):=by
 intro d
 have:∀d:Fin 10,(([48,49,50,51,52,53,54,55,56,57]:List UInt8).take (d.val+1)).drop d.val=[UInt8.ofNat (48+d.val)]:=by decide
 simp only[slStrP,optP,zaI]
 rw[show ((d.val:Int)+1)=((d.val+1:Nat):Int) by omega,zaI]
 simp only
 rw[if_pos ⟨by omega,by simp;omega⟩,this d]
theorem ziz {n:Int} (h:Fits64 n):pf E0 127 [.i .i64 n]=some (.s (decI n)):=by
 refine zaa (xf:=zv9) rfl (by simp[zv9]) ?_
 simp only[zv9]
 unfold Fits64 at h
 by_cases hn:n=0
 ·subst hn
  simp(disch:=omega)only[go_sem,seval,wqq]
  rfl
 ·have q0:(n=0)=False:=by simp[hn]
  simp(disch:=omega)only[go_sem,seval,wqq,q0]
  refine zan zxg.eq_1 (fun(z:Int) fr M=>fr 0=.i .i64 n∧fr 3=.s [48,49,50,51,52,53,54,55,56,57]∧fr 5=.i .i64 z ∧ -9223372036854775808≤z∧z≤9223372036854775807∧M=[] ∧
   ∃i,i+dlen z.natAbs=dlen n.natAbs∧z.natAbs=n.natAbs/10^i∧fr 4=.s (dtx i n.natAbs)) (fun z=>z.natAbs) ?_ n ⟨by simp only[go_sem,seval],by simp only[go_sem,seval],by simp only[go_sem,seval],by omega,by omega,rfl,0,by omega,by simp,by simp only[go_sem,seval];rfl⟩
  rintro z fr M ⟨h0,h3,h5,z1,z2,rfl,i,hi,hz,h4⟩ ih
  have dl:dlen n.natAbs≤20:=zam.2 (by omega)
  by_cases hz0:z=0
  ·subst hz0
   have d0:dlen (0:Int).natAbs=0:=by have:dlen 0≤0:=zam.2 (by decide);show dlen 0=0;omega
   have hi':i=dlen n.natAbs:=by omega
   subst hi'
   have hd:dec n.natAbs=dtx (dlen n.natAbs) n.natAbs:=by unfold dec;rw[if_neg (by omega)]
   by_cases hs:n<0
   ·have hadd:binP .add (.s [45]) (.s (dtx (dlen n.natAbs) n.natAbs))=some (.s (decI n)):=by
     rw[zaE _ _ (by simp;omega)];unfold decI;rw[if_pos hs,hd];rfl
    simp(disch:=omega)only[go_sem,seval,wqq,h0,h3,h4,h5,hs,hadd]
   ·have:decI n=dtx (dlen n.natAbs) n.natAbs:=by unfold decI;rw[if_neg hs,hd]
    rw[this]
    simp(disch:=omega)only[go_sem,seval,wqq,h0,h3,h4,h5,hs]
  ·have q1:(z=0)=False:=by simp[hz0]
   have r1:(z.tmod 10).natAbs=z.natAbs%10:=by rw[Int.natAbs_tmod];rfl
   have r2:(z.tdiv 10).natAbs=z.natAbs/10:=by rw[Int.natAbs_tdiv];rfl
   have hc:=zlF ⟨z.natAbs%10,Nat.mod_lt _ (by decide)⟩
   simp only at hc
   have hadd:binP .add (.s [UInt8.ofNat (48+z.natAbs%10)]) (.s (dtx i n.natAbs))=some (.s (dtx (i+1) n.natAbs)):=by
    rw[zaE _ _ (by simp;omega)]
    show _=some (PV.s (UInt8.ofNat (48+n.natAbs/10^i%10)::dtx i n.natAbs))
    rw[←hz];rfl
   have hdl:i+1+dlen (z.natAbs/10)=dlen n.natAbs:=by
    have e1:dlen (z.natAbs/10)+1=dlen z.natAbs:=by
     have k:∀m,dlen (z.natAbs/10)≤m↔dlen z.natAbs≤m+1:=fun m=>by
      rw[zam,zam,Nat.pow_succ,Nat.div_lt_iff_lt_mul (by decide)]
     have k1:=(k (dlen (z.natAbs/10))).1 (Nat.le_refl _)
     have k2:0<dlen z.natAbs:=by
      rcases Nat.eq_zero_or_pos (dlen z.natAbs) with q|q
      ·have:=zbq z.natAbs;rw[q] at this;simp at this;omega
      ·exact q
     have k3:=(k (dlen z.natAbs-1)).2 (by omega)
     omega
    omega
   have hnz:z.natAbs/10=n.natAbs/10^(i+1):=by rw[hz,Nat.pow_succ,Nat.div_div_eq_div_mul]
   generalize hr:z.tmod 10=r at *
   generalize hq:z.tdiv 10=q at *
   by_cases hr0:r<0
   ·have e1:(0:Int)-r=((z.natAbs%10:Nat):Int):=by omega
    simp(disch:=omega)only[go_sem,seval,wqq,h0,h3,h4,h5,q1,hr,hq,hr0,e1,hc,hadd]
    exact ih q _ _ (by omega) ⟨by simp only[go_sem,seval,h0],by simp only[go_sem,seval,h3],by simp only[go_sem,seval],by omega,by omega,rfl,i+1,by rw[r2];exact hdl,by rw[r2,hnz],by simp only[go_sem,seval]⟩
   ·have e1:r=((z.natAbs%10:Nat):Int):=by omega
    rw[←e1] at hc
    simp(disch:=omega)only[go_sem,seval,wqq,h0,h3,h4,h5,q1,hr,hq,hr0,hc,hadd]
    exact ih q _ _ (by omega) ⟨by simp only[go_sem,seval,h0],by simp only[go_sem,seval,h3],by simp only[go_sem,seval],by omega,by omega,rfl,i+1,by rw[r2];exact hdl,by rw[r2,hnz],by simp only[go_sem,seval]⟩
end Go.Eng
namespace Go.Eng
theorem zek (m:Nat):∀(n v:Nat),dtx (n+m) v=dtx n (v/10^m)++dtx m v
 | 0,v=>by simp[dtx]
 | n+1,v=>by
  rw[show n+1+m=(n+m)+1 by omega]
  show UInt8.ofNat (48+v/10^(n+m)%10)::dtx (n+m) v=UInt8.ofNat (48+v/10^m/10^n%10)::dtx n (v/10^m)++dtx m v
  rw[zek m n v,Nat.div_div_eq_div_mul,←Nat.pow_add,Nat.add_comm m n];rfl
theorem zfC:∀(n m v:Nat),n≤m→dtx n (v%10^m)=dtx n v
 | 0,_,_,_=>rfl
 | n+1,m,v,h=>by
  show UInt8.ofNat (48+v%10^m/10^n%10)::dtx n (v%10^m)=UInt8.ofNat (48+v/10^n%10)::dtx n v
  rw[zfC n m v (by omega)]
  congr 2
  have e:(10:Nat)^m=10^n*(10*10^(m-n-1)):=by
   rw[←Nat.pow_succ',←Nat.pow_add];congr 1;omega
  rw[e,Nat.mod_mul_right_div_self,Nat.mod_mul_right_mod]
theorem zlJ (n m v:Nat) (h:v<10^n) (hm:n≤m):dtx m v=List.replicate (m-n) 48++dtx n v:=by
 obtain⟨k,rfl⟩:∃k,m=k+n:=⟨m-n,by omega⟩
 rw[zek n k v,Nat.div_eq_of_lt h,Nat.add_sub_cancel]
 congr 1
 induction k with
 | zero=>rfl
 | succ k ih =>
  show UInt8.ofNat (48+0/10^k%10)::dtx k 0=_
  rw[ih (by omega),List.replicate_succ,Nat.zero_div];rfl
theorem zjH {d:Nat} (h:d<10000):dlen d≤4:=zam.2 (by omega)
theorem zb1 {v:Nat} (h:v≠0):dec v=dtx (dlen v) v:=by unfold dec;rw[if_neg h]
theorem zqK {F:PFin} {ks:List KI} {e L:Nat} {fr:PFr} {M:PM} {A1 A3 A4:PV} (h1:fr 1=A1) (h3:fr 3=A3) (h4:fr 4=A4) (h5:fr 5=.s (dtx L e)) (hL:L≤4) (he:e<10^L)
  (cont:∀fr',fr' 1=A1→fr' 3=A3→fr' 4=A4→fr' 5=.s (dtx 4 e)→UK E0 F (.exit 2) ks fr' M):WK E0 F (.loop zxa) ks fr M:=by
 refine zan zxa.eq_1 (fun(L:Nat) fr M'=>L≤4∧e<10^L∧fr 1=A1∧fr 3=A3∧fr 4=A4∧fr 5=.s (dtx L e)∧M'=M) (fun L=>4-L) ?_ L ⟨hL,he,h1,h3,h4,h5,rfl⟩
 rintro L fr M' ⟨hL,he,h1,h3,h4,h5,rfl⟩ ih
 have hl:((dtx L e).length:Int)=(L:Int):=by rw[zbr]
 by_cases h:L<4
 ·have q1:((L:Int)<4)=True:=by simp;omega
  have hadd:binP .add (.s [48]) (.s (dtx L e))=some (.s (dtx (L+1) e)):=by
   rw[zaE _ _ (by simp;omega)]
   show _=some (PV.s (UInt8.ofNat (48+e/10^L%10)::dtx L e))
   rw[Nat.div_eq_of_lt he];rfl
  simp(disch:=omega)only[go_sem,seval,wqq,h5,hl,q1,hadd]
  exact ih (L+1) _ _ (by omega) ⟨by omega,by rw[Nat.pow_succ];omega,by simp only[go_sem,seval,h1],by simp only[go_sem,seval,h3],by simp only[go_sem,seval,h4],by simp only[go_sem,seval],rfl⟩
 ·have q1:((L:Int)<4)=False:=by simp;omega
  have:L=4:=by omega
  simp(disch:=omega)only[go_sem,seval,wqq,h5,hl,q1]
  exact cont _ (by simp only[go_sem,seval,h1]) (by simp only[go_sem,seval,h3]) (by simp only[go_sem,seval,h4]) (by simp only[go_sem,seval,h5,this])
theorem zlD {x e:Nat} (hx:x≠0) (he:e<10000):dec (x*10000+e)=dec x++dtx 4 e:=by
 have hd:dlen (x*10000+e)=dlen x+4:=by
  have k:∀m,dlen x≤m↔dlen (x*10000+e)≤m+4:=fun m=>by
   rw[zam,zam,Nat.pow_add]
   generalize 10^m=p
   have:(10:Nat)^4=10000:=rfl
   rw[this];omega
  have k1:=(k (dlen x)).1 (Nat.le_refl _)
  have k2:∀m,dlen (x*10000+e)≤m→4≤m:=fun m h=>by
   rw[zam] at h
   rcases Nat.lt_or_ge m 4 with q|q
   ·have:(10:Nat)^m≤10^3:=Nat.pow_le_pow_right (by decide) (by omega)
    have:(10:Nat)^3=1000:=rfl
    omega
   ·exact q
  have k3:=k2 _ (Nat.le_refl _)
  have k4:=(k (dlen (x*10000+e)-4)).2 (by omega)
  omega
 rw[zb1 (by omega),zb1 hx,hd,zek]
 have e1:(x*10000+e)/10^4=x:=by show (x*10000+e)/10000=x;omega
 have e2:(x*10000+e)%10^4=e:=by show (x*10000+e)%10000=e;omega
 rw[e1,←zfC 4 4 (x*10000+e) (Nat.le_refl _),e2]
theorem zhD {v t:Nat} (h:v<10000^t) (ht:0<t):(dec v).length≤4*t:=by
 unfold dec
 split
 ·simp;omega
 ·rw[zbr,zam,Nat.pow_mul];exact h
theorem zp9 (e:Nat) (he:e<10000):∃L,dec e=dtx L e∧L≤4∧e<10^L:=by
 by_cases h:e=0
 ·subst h;exact⟨1,rfl,by omega,by decide⟩
 ·exact⟨dlen e,zb1 h,zjH he,zbq e⟩
end Go.Eng
namespace Go.Eng
theorem zmu:pf E0 107 [nP 0]=some (.s (decI 0)):=by
 refine zaa (xf:=zvR) rfl (by simp[zvR]) ?_
 simp only[zvR]
 have c0:(nP 0).cells=[.b false,T 0]:=rfl
 have e0:((tlen 0:Int)=0)=True:=by rw[zaM];simp
 simp(disch:=omega)only[go_sem,seval,wqq,c0,e0]
 rfl
theorem zlb {z:Int} (lz:tlen z.natAbs<100000):pf E0 107 [nP z]=some (.s (decI z)):=by
 by_cases hz:z=0
 ·subst hz;exact zmu
 refine zaa (xf:=zvR) rfl (by simp[zvR]) ?_
 simp only[zvR]
 have hv:z.natAbs≠0:=by omega
 have hdI:decI z=if z<0 then 45::dec z.natAbs else dec z.natAbs:=rfl
 generalize hs:decide (z<0)=sg at *
 have hcz:(nP z).cells=[.b sg,T z.natAbs]:=by rw[←hs];rfl
 have hdI2:decI z=if sg=true then 45::dec z.natAbs else dec z.natAbs:=by
  rw[hdI,←hs];by_cases q:z<0<;>simp[q]
 rw[hdI2]
 generalize z.natAbs=v at *
 have ht:=zaR hv
 have eT:T v=Tw (tlen v) v:=rfl
 have hq:((tlen v:Int)=0)=False:=by simp;omega
 have hdg:=zc4 v (tlen v-1)
 have htop:tdg v (tlen v-1)=v/10000^(tlen v-1):=by
  rw[zak,Nat.mod_eq_of_lt]
  apply Nat.div_lt_of_lt_mul
  rw[←Nat.pow_succ,show (tlen v-1).succ=tlen v by omega];exact zaj v
 have hpb:10000^(tlen v-1)≤v:=by
  rcases Nat.lt_or_ge v (10000^(tlen v-1)) with q|q
  ·have:=zad q;omega
  ·exact q
 have hD:∀e:Nat,e<10000→pf E0 127 [(PV.i .i64 ((e:Nat):Int))]=some (.s (dec e)):=fun e he=>by
  have h1:=ziz (n:=(e:Int)) (by unfold Fits64;omega)
  have h2:decI (e:Int)=dec e:=by unfold decI;rw[if_neg (by omega),Int.natAbs_natCast]
  rw[h2] at h1;exact h1
 have hD0:=hD _ hdg
 have i1:(tlen v:Int)-1=((tlen v-1:Nat):Int):=by omega
 simp(disch:=omega)only[go_sem,seval,wqq,hcz,hq,eT,i1,zbK,hD0]
 refine zan zxw.eq_1 (fun(i:Nat) fr M=>i≤tlen v-1∧fr 1=.p 0 0∧fr 3=.s (dec (v/10000^i))∧fr 4=.i .i64 ((i:Int)-1)∧M=[some ⟨[.b sg,T v],true,0⟩]) id ?_ (tlen v-1) ⟨Nat.le_refl _,by simp only[go_sem,seval],by simp only[go_sem,seval];rw[htop],by simp only[go_sem,seval];congr 1;omega,rfl⟩
 rintro i fr M ⟨hi,h1,h3,h4,rfl⟩ ih
 by_cases hi0:i=0
 ·subst hi0
  rw[Nat.pow_zero,Nat.div_one] at h3
  cases sg
  ·simp(disch:=omega)only[go_sem,seval,wqq,h1,h3,h4,Int.natCast_zero,Int.zero_sub,Int.reduceNeg,Int.reduceLE,ge_iff_le]
  ·have hl:=zhD (zaj v) ht
   have hadd:binP .add (.s [45]) (.s (dec v))=some (.s (45::dec v)):=by
    rw[zaE _ _ (by simp;omega)];rfl
   simp(disch:=omega)only[go_sem,seval,wqq,h1,h3,h4,Int.natCast_zero,Int.zero_sub,Int.reduceNeg,Int.reduceLE,ge_iff_le,hadd]
 ·obtain⟨m,rfl⟩:∃m,i=m+1:=⟨i-1,by omega⟩
  have q1:(((m+1:Nat):Int)-1≥0)=True:=by simp
  have q2:(((m+1:Nat):Int)-1)=(m:Int):=by omega
  have he:=zc4 v m
  have hDm:=hD _ he
  obtain⟨L,hL1,hL2,hL3⟩:=zp9 _ he
  have hx:v/10000^(m+1)≠0:=by
   have h1:10000^(m+1)≤v:=Nat.le_trans (Nat.pow_le_pow_right (by decide) hi) hpb
   have:=Nat.div_pos h1 (zdj (m+1))
   omega
  have hsp:v/10000^m=v/10000^(m+1)*10000+tdg v m:=by rw[zbo,zak];omega
  have hdm:=zlD hx he
  rw[←hsp] at hdm
  have hxl:v/10000^(m+1)<10000^tlen v:=Nat.lt_of_le_of_lt (Nat.div_le_self _ _) (zaj v)
  have hl:=zhD hxl ht
  have hadd:binP .add (.s (dec (v/10000^(m+1)))) (.s (dtx 4 (tdg v m)))=some (.s (dec (v/10000^m))):=by
   rw[zaE _ _ (by simp;omega),hdm]
  have hml:m<tlen v:=by omega
  simp(disch:=omega)only[go_sem,seval,wqq,h1,h3,h4,q1,q2,eT,zbK,hDm]
  refine zqK (A1:=.p 0 0) (A3:=.s (dec (v/10000^(m+1)))) (A4:=.i .i64 (m:Int)) (by simp only[go_sem,seval,h1]) (by simp only[go_sem,seval,h3]) (by simp only[go_sem,seval,h4,q2]) (by simp only[go_sem,seval];rw[hL1]) hL2 hL3 fun fr' g1 g3 g4 g5=>?_
  simp(disch:=omega)only[go_sem,seval,wqq,g1,g3,g4,g5,hadd]
  exact ih m _ _ (by simp only[id];omega) ⟨by omega,by simp only[go_sem,seval,g1],by simp only[go_sem,seval],by simp only[go_sem,seval],rfl⟩
end Go.Eng
namespace Go.Eng
theorem zcF {E:PEnv} {F:PFin} {ops:List XOper} {chk:List (Nat×Nat)} {ks:List KI} {fr:PFr} {M:PM} (hc:∀fr2 Ms,pOpsT E.glob (pcl E) ops fr M=some (fr2,Ms)→chk.all (chkP E.glob ops fr2 Ms)=true) (w:WL E F ops ks fr M):WK E F (.drw ops chk) ks fr M:=by
 obtain⟨lf,w⟩:=w
 refine⟨lf,?_⟩
 have key:pCode E.glob (pcl E) lf (.drw ops chk) fr M=(pOps E.glob (pcl E) ops fr M).map fun r=>(.normal,r.1,r.2):=by
  simp only[pCode]
  congr 1
  cases hops:pOps E.glob (pcl E) ops fr M with
  | none=>rw[hops] at w;exact(Ends.none w).elim
  | some r =>
   unfold pDrw
   by_cases h0:chk=[]
   ·rw[if_pos h0,hops]
   ·rw[if_neg h0]
    obtain⟨fr2,M2⟩:=r
    obtain⟨Ms,h1,h2⟩:=zbQ hops
    rw[h1]
    have hall:chk.all (chkP E.glob ops fr2 Ms)=true:=by
     exact hc _ _ h1
    simp only[hall,if_true,h2,Option.map_some]
 rw[key]
 cases hops:pOps E.glob (pcl E) ops fr M with
 | none=>rw[hops] at w;exact(Ends.none w).elim
 | some r=>rw[hops] at w;exact w
theorem zhq {E:PEnv} {ops:List XOper} {fr fr2:PFr} {M:PM} {Ms:List PM} {i j s n o:Nat} {a b:XOper} {z:Bool} {k:Nat} (h1:pOpsT E.glob (pcl E) ops fr M=some (fr2,Ms)) (ha:ops[i]?=some a) (hb:ops[j]?=some b)
  (hop:a.op=.load z k (.t s)) (hcb:calmOp E b.op=true) (hall:(ops.all fun o=>o.dst != some s)=true) (hs:fr s=.p n o):chkP E.glob ops fr2 Ms (i,j)=true:=by
 have hk:=(zbg h1).2
 obtain⟨fri,A,B,q1,q2,q3,q4⟩:=zau h1 ha
 obtain⟨frj,C,D,p1,p2,p3,p4⟩:=zau h1 hb
 have p2':Ms[(i,j).2+1]?=some D:=p2
 have q2':Ms[(i,j).1+1]?=some B:=q2
 refine zcK ?_
 simp only[chkP0,ha,q1,q2,p1,p2]
 rw[if_neg (by rw[hop];simp[XO.cls])]
 rw[hop]
 show chkV ops j (.t s) C D (fr2 s)=true
 rw[hk s hall,hs]
 show verP (some n) C D=true
 rcases p3 with⟨_,v,p3⟩|⟨_,p3⟩
 ·cases hop:b.op with
  | call f l =>
   rw[hop] at p3 hcb
   obtain⟨ns,rfl⟩:=zco hcb p3
   exact zdi ns C _
  | _=>rw[hop] at hcb;simp[calmOp] at hcb
 ·rw[p3];simp[verP]
end Go.Eng
namespace Go.Eng
theorem zls:∀(a b:List UInt8),tv (a++b)=tv a*10^b.length+tv b
 | [],b=>by simp[tv]
 | c::a,b=>by
  show (c.toNat-48)*10^(a++b).length+tv (a++b)=_
  rw[zls a b,List.length_append,Nat.pow_add]
  show _=((c.toNat-48)*10^a.length+tv a)*10^b.length+tv b
  grind
theorem zkJ:∀(l:List UInt8),l.all isDig=true→tv l<10^l.length
 | [],_=>by simp[tv]
 | c::l,h=>by
  simp only[List.all_cons,Bool.and_eq_true,isDig,decide_eq_true_eq] at h
  have h2:=zkJ l h.2
  show (c.toNat-48)*10^l.length+tv l<10^(l.length+1)
  rw[Nat.pow_succ]
  have:(c.toNat-48)*10^l.length≤9*10^l.length:=Nat.mul_le_mul_right _ (by omega)
  omega
theorem dch (d:Nat) (h:d<10):(UInt8.ofNat (48+d)).toNat=48+d:=by
 have:∀d:Fin 10,(UInt8.ofNat (48+d.val)).toNat=48+d.val:=by decide
 exact this ⟨d,h⟩
theorem zlt:∀(n v:Nat),tv (dtx n v)=v%10^n
 | 0,v=>by simp[dtx,tv,Nat.mod_one]
 | n+1,v=>by
  show ((UInt8.ofNat (48+v/10^n%10)).toNat-48)*10^(dtx n v).length+tv (dtx n v)=_
  rw[dch _ (Nat.mod_lt _ (by decide)),zbr,zlt n v,Nat.pow_succ,Nat.mod_mul,Nat.add_sub_cancel_left,Nat.mul_comm,Nat.add_comm]
theorem zhI:∀(n v:Nat),(dtx n v).all isDig=true
 | 0,_=>rfl
 | n+1,v=>by
  show (isDig (UInt8.ofNat (48+v/10^n%10))&&(dtx n v).all isDig)=true
  rw[zhI n v,Bool.and_true]
  unfold isDig
  rw[dch _ (Nat.mod_lt _ (by decide))]
  have:=Nat.mod_lt (v/10^n) (by decide:0<10)
  exact decide_eq_true (by omega)
theorem zji (v:Nat):tv (dec v)=v:=by
 unfold dec
 split
 ·rename_i h;rw[h];rfl
 ·rw[zlt,Nat.mod_eq_of_lt (zbq v)]
theorem zhH (v:Nat):(dec v).all isDig=true:=by
 unfold dec
 split
 ·rfl
 ·exact zhI _ _
end Go.Eng
